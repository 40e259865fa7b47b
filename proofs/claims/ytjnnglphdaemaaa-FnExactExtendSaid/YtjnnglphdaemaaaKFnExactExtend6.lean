-- Joined and shortened by a program of this session (wip/tools/shakecopy.py): the words of the print, texts of pp.sh and of mine.
import Derived.Test.YtjnnglphdaemaaaKFnExactExtend5
import Derived.Test.YtjnnglphdaemaaaRows
import Derived.WalkKit
import Derived.ProofKit
import Derived.OpenShut
import Derived.ShutString
import Derived.ChangeOld
import Derived.Below
import Derived.SizedLaws
import Derived.Carry
section
-- Written by a program of this session (wip/tools/pp.sh) over the print of the kit.
namespace Go.Proofs.Ytjnnglphdaemaaa.Q
open Go.RowKit Go.Proofs.YtjnnglphdaemaaaW.PrintWords Go.Proofs.YtjnnglphdaemaaaW.PrintLast Go.Proofs.YtjnnglphdaemaaaW.PrintMore
attribute [local go_sem] max2_int min2_int max_two min_two max_three min_three max_four min_four   -- for this text's walks alone
set_option linter.unusedVariables false
set_option linter.unusedSimpArgs false
mutual
def laws_FnExactExtend.j0 : Nat → List (S47) → List ByteArray → Int → List (S28) → List ByteArray → Int → Bool → List ByteArray → Int → ByteArray → Int → ByteArray → List ByteArray → Int → ByteArray → List ByteArray → Int → ByteArray → List ByteArray → Int → ByteArray → Option (Bool)
 | 0, _, _, _, _, _, _, _, _, _, _, _, _, _, _, _, _, _, _, _, _, _ => none
 | k + 1, x1, x3, x11, x13, x14, x16, x77, x602000, x602001, x602002, x603000, x603001, x627000, x627001, x627002, x633000, x633001, x633002, x648000, x648001, x648002 => if x77 = true then (none) else ((laws_toLog.f k x602000 x602001 x602002).bind fun bt649 => ((laws_eqLog.f k x633000 x633001 x633002 bt649.1 bt649.2.1 bt649.2.2).bind fun t654 => (if t654 = true then ((laws_toHeadS.f k x1).bind fun t655 => ((laws_eqHeadS.f k x13 t655).bind fun t658 => (if t658 = true then ((laws_toStringS.f k x3).bind fun t659 => ((laws_eqStringS.f k x14 t659).bind fun t662 => (if t662 = true then ((laws_markLog.f k x633000 x633001 x633002 1).bind fun bt663 => ((laws_markHeadS.f k x13 bt663.1).bind fun bt665 => ((laws_markStringS.f k x14 bt665.1).bind fun bt667 => (if bt667.1 < 0 then (laws_FnExactExtend.j1 k x1 x3 x11 true x602000 x602001 x602002 x603000 x603001 x627000 x627001 x627002 x648000 x648001 x648002) else ((laws_eqLog.f k x648000 x648001 x648002 x627000 x627001 x627002).bind fun t669 => (if t669 = true then (laws_FnExactExtend.j1 k x1 x3 x11 (x16 != x11) x602000 x602001 x602002 x603000 x603001 x627000 x627001 x627002 x648000 x648001 x648002) else (laws_FnExactExtend.j1 k x1 x3 x11 true x602000 x602001 x602002 x603000 x603001 x627000 x627001 x627002 x648000 x648001 x648002))))))) else (none)))) else (none)))) else (none))))
def laws_FnExactExtend.j1 : Nat → List (S47) → List ByteArray → Int → Bool → List ByteArray → Int → ByteArray → Int → ByteArray → List ByteArray → Int → ByteArray → List ByteArray → Int → ByteArray → Option (Bool)
 | 0, _, _, _, _, _, _, _, _, _, _, _, _, _, _, _ => none
 | k + 1, x1, x3, x11, x114, x602000, x602001, x602002, x603000, x603001, x627000, x627001, x627002, x648000, x648001, x648002 => if x114 = true then (none) else ((laws_markLog.f k x648000 x648001 x648002 1).bind fun bt670 => ((laws_heldLog.f k bt670.2 x648001 x648002 1).bind fun t672 => (if t672 < 0 then (none) else (if t672 = bt670.1 then ((laws_toLog.f k x602000 x602001 x602002).bind fun bt673 => ((laws_toHeadS.f k x1).bind fun t678 => ((laws_toHead.f x603000 x603001).bind fun bt681 => ((laws_toStringS.f k x3).bind fun t683 => ((impl_Extend.f k bt673.1 bt673.2.1 bt673.2.2 t678 bt681.1 bt681.2 t683).bind fun bt686 => ((laws_eqLog.f k bt686.1 bt686.2.1 bt686.2.2.1 x627000 x627001 x627002).bind fun t693 => (if t693 = true then (laws_FnExactExtend.j2 k bt670.1 (bt686.2.2.2 != x11) bt670.2 x648001 x648002) else (laws_FnExactExtend.j2 k bt670.1 true bt670.2 x648001 x648002)))))))) else (none)))))
def laws_FnExactExtend.j2 : Nat → Int → Bool → List ByteArray → Int → ByteArray → Option (Bool)
 | 0, _, _, _, _, _ => none
 | k + 1, x18, x146, x648000, x648001, x648002 => if x146 = true then (none) else ((laws_heldLog.f k x648000 x648001 x648002 1).bind fun t694 => (if t694 < 0 then (none) else (if t694 = x18 then (some true) else (none))))
end
def laws_FnExactExtend.f (k : Nat) (l0_0 : List ByteArray) (a0_1 : Int) (a0_2 : ByteArray) (l1 : List (S47)) (a2_0 : Int) (a2_1 : ByteArray) (l3 : List ByteArray) : Option (Bool) := (laws_szLog.f k l0_0 a0_1 a0_2 1048576).bind fun t603 => (if t603 < 0 then (some true) else ((laws_szHeadS.f k l1 t603).bind fun t604 => (if t604 < 0 then (some true) else ((laws_szHead.f a2_0 a2_1 t604).bind fun t605 => (if t605 < 0 then (some true) else ((laws_szStringS.f k l3 t605).bind fun t606 => (if t606 < 0 then (some true) else ((laws_toLog.f k l0_0 a0_1 a0_2).bind fun bt607 => ((laws_toHeadS.f k l1).bind fun t612 => ((laws_toHead.f a2_0 a2_1).bind fun bt615 => ((laws_toStringS.f k l3).bind fun t617 => ((spec_Extend.f k bt607.1 bt607.2.1 bt607.2.2 t612 bt615.1 bt615.2 t617).bind fun bt620 => ((laws_toLog.f k l0_0 a0_1 a0_2).bind fun bt627 => ((laws_toHeadS.f k l1).bind fun t633 => ((laws_toStringS.f k l3).bind fun t636 => ((laws_toHead.f a2_0 a2_1).bind fun bt639 => ((impl_Extend.f k bt627.1 bt627.2.1 bt627.2.2 t633 bt639.1 bt639.2 t636).bind fun bt641 => ((laws_eqLog.f k bt641.1 bt641.2.1 bt641.2.2.1 bt620.1 bt620.2.1 bt620.2.2.1).bind fun t648 => (if t648 = true then (laws_FnExactExtend.j0 k l1 l3 bt620.2.2.2 t633 t636 bt641.2.2.2 (bt641.2.2.2 != bt620.2.2.2) l0_0 a0_1 a0_2 a2_0 a2_1 bt620.1 bt620.2.1 bt620.2.2.1 bt627.1 bt627.2.1 bt627.2.2 bt641.1 bt641.2.1 bt641.2.2.1) else (laws_FnExactExtend.j0 k l1 l3 bt620.2.2.2 t633 t636 bt641.2.2.2 true l0_0 a0_1 a0_2 a2_0 a2_1 bt620.1 bt620.2.1 bt620.2.2.1 bt627.1 bt627.2.1 bt627.2.2 bt641.1 bt641.2.1 bt641.2.2.1))))))))))))))))))))
theorem laws_FnExactExtend.mono_l : ∀ k, (∀ y0 y1 y2 y3 y4 y5 y6 y7 y8 y9 y10 y11 y12 y13 y14 y15 y16 y17 y18 y19 y20, LeO (laws_FnExactExtend.j0 k y0 y1 y2 y3 y4 y5 y6 y7 y8 y9 y10 y11 y12 y13 y14 y15 y16 y17 y18 y19 y20) (laws_FnExactExtend.j0 (k + 1) y0 y1 y2 y3 y4 y5 y6 y7 y8 y9 y10 y11 y12 y13 y14 y15 y16 y17 y18 y19 y20)) ∧ (∀ y0 y1 y2 y3 y4 y5 y6 y7 y8 y9 y10 y11 y12 y13 y14, LeO (laws_FnExactExtend.j1 k y0 y1 y2 y3 y4 y5 y6 y7 y8 y9 y10 y11 y12 y13 y14) (laws_FnExactExtend.j1 (k + 1) y0 y1 y2 y3 y4 y5 y6 y7 y8 y9 y10 y11 y12 y13 y14)) ∧ (∀ y0 y1 y2 y3 y4, LeO (laws_FnExactExtend.j2 k y0 y1 y2 y3 y4) (laws_FnExactExtend.j2 (k + 1) y0 y1 y2 y3 y4))
 | 0 => ⟨fun _ _ _ _ _ _ _ _ _ _ _ _ _ _ _ _ _ _ _ _ _ r h => by simp [laws_FnExactExtend.j0] at h, fun _ _ _ _ _ _ _ _ _ _ _ _ _ _ _ r h => by simp [laws_FnExactExtend.j1] at h, fun _ _ _ _ _ r h => by simp [laws_FnExactExtend.j2] at h⟩
 | k + 1 => by
  obtain ⟨ih0, ih1, ih2⟩ := laws_FnExactExtend.mono_l k
  refine ⟨?_, ?_, ?_⟩
  ·intro y0 y1 y2 y3 y4 y5 y6 y7 y8 y9 y10 y11 y12 y13 y14 y15 y16 y17 y18 y19 y20
   unfold laws_FnExactExtend.j0
   repeat' (with_reducible first | exact LeO.refl _ | exact LeO.none _ | apply ih0 | apply ih1 | apply ih2 | apply impl_Extend.mono | apply laws_eqHeadS.mono | apply laws_eqLog.mono | apply laws_eqStringS.mono | apply laws_heldLog.mono | apply laws_markHeadS.mono | apply laws_markLog.mono | apply laws_markStringS.mono | apply laws_szHeadS.mono | apply laws_szLog.mono | apply laws_szStringS.mono | apply laws_toHeadS.mono | apply laws_toLog.mono | apply laws_toStringS.mono | apply spec_Extend.mono | apply LeO.ite | refine LeO.bind ?_ fun _ => ?_)
  ·intro y0 y1 y2 y3 y4 y5 y6 y7 y8 y9 y10 y11 y12 y13 y14
   unfold laws_FnExactExtend.j1
   repeat' (with_reducible first | exact LeO.refl _ | exact LeO.none _ | apply ih0 | apply ih1 | apply ih2 | apply impl_Extend.mono | apply laws_eqHeadS.mono | apply laws_eqLog.mono | apply laws_eqStringS.mono | apply laws_heldLog.mono | apply laws_markHeadS.mono | apply laws_markLog.mono | apply laws_markStringS.mono | apply laws_szHeadS.mono | apply laws_szLog.mono | apply laws_szStringS.mono | apply laws_toHeadS.mono | apply laws_toLog.mono | apply laws_toStringS.mono | apply spec_Extend.mono | apply LeO.ite | refine LeO.bind ?_ fun _ => ?_)
  ·intro y0 y1 y2 y3 y4
   unfold laws_FnExactExtend.j2
   repeat' (with_reducible first | exact LeO.refl _ | exact LeO.none _ | apply ih0 | apply ih1 | apply ih2 | apply impl_Extend.mono | apply laws_eqHeadS.mono | apply laws_eqLog.mono | apply laws_eqStringS.mono | apply laws_heldLog.mono | apply laws_markHeadS.mono | apply laws_markLog.mono | apply laws_markStringS.mono | apply laws_szHeadS.mono | apply laws_szLog.mono | apply laws_szStringS.mono | apply laws_toHeadS.mono | apply laws_toLog.mono | apply laws_toStringS.mono | apply spec_Extend.mono | apply LeO.ite | refine LeO.bind ?_ fun _ => ?_)
theorem laws_FnExactExtend.mono : ∀ a0 a1 a2 a3 a4 a5 a6 k, LeO (laws_FnExactExtend.f k a0 a1 a2 a3 a4 a5 a6) (laws_FnExactExtend.f (k + 1) a0 a1 a2 a3 a4 a5 a6) := by
 intro a0 a1 a2 a3 a4 a5 a6 k
 obtain ⟨ih0, ih1, ih2⟩ := laws_FnExactExtend.mono_l k
 unfold laws_FnExactExtend.f
 repeat' (with_reducible first | exact LeO.refl _ | exact LeO.none _ | apply ih0 | apply ih1 | apply ih2 | apply impl_Extend.mono | apply laws_eqHeadS.mono | apply laws_eqLog.mono | apply laws_eqStringS.mono | apply laws_heldLog.mono | apply laws_markHeadS.mono | apply laws_markLog.mono | apply laws_markStringS.mono | apply laws_szHeadS.mono | apply laws_szLog.mono | apply laws_szStringS.mono | apply laws_toHeadS.mono | apply laws_toLog.mono | apply laws_toStringS.mono | apply spec_Extend.mono | apply LeO.ite | refine LeO.bind ?_ fun _ => ?_)
def laws_FnExactExtend.T14 : Bool × List (List Nat × List Nat) := (true, [([], []), ([0], [0]), ([], []), ([2, 1], [2]), ([], []), ([4, 3], [4]), ([], []), ([6, 5], [6]), ([1, 3, 5, 7, 7], [1, 3, 5, 7]), ([8], [8]), ([9], [9]), ([9], [9]), ([], []), ([12, 10, 8, 0, 1, 2, 3, 4, 5, 6, 7, 8, 9, 10, 12], [10, 12]), ([11, 13, 0, 1, 2, 3, 4, 5, 6, 7, 8, 9, 10, 11, 12, 13], [11])])
def laws_FnExactExtend.B14 : List Nat := [0, 1, 0, 7, 0, 31, 0, 127, 255, 511, 1023, 1023, 0, 6143, 16383]
theorem laws_FnExactExtend.tab14 : rtab .any (opsOf Try.f5 14) = laws_FnExactExtend.T14 := by kernel_rfl
theorem laws_FnExactExtend.bits14 : waitsOk laws_FnExactExtend.T14.2 laws_FnExactExtend.B14 = true := by kernel_rfl
def laws_FnExactExtend.T18 : Bool × List (List Nat × List Nat) := (true, [([], []), ([], []), ([], []), ([2], [2]), ([], []), ([0, 1, 3, 4, 3], [0, 1, 3, 4]), ([5], [5]), ([6], [6]), ([6], [6]), ([], []), ([9, 7, 5, 0, 1, 2, 3, 4, 5, 6, 7, 9], [7, 9]), ([8, 10, 0, 1, 2, 3, 4, 5, 6, 7, 8, 9, 10], [8])])
def laws_FnExactExtend.B18 : List Nat := [0, 0, 0, 4, 0, 31, 63, 127, 127, 0, 767, 2047]
theorem laws_FnExactExtend.tab18 : rtab .any (opsOf Try.f5 18) = laws_FnExactExtend.T18 := by kernel_rfl
theorem laws_FnExactExtend.bits18 : waitsOk laws_FnExactExtend.T18.2 laws_FnExactExtend.B18 = true := by kernel_rfl
def laws_FnExactExtend.T41 : Bool × List (List Nat × List Nat) := (true, [([], []), ([0], [0]), ([], []), ([2, 1], [2]), ([], []), ([4, 3], [4]), ([], []), ([6, 5], [6]), ([1, 3, 5, 7, 7], [1, 3, 5, 7]), ([8], [8]), ([9], [9]), ([9], [9]), ([], []), ([12, 10, 8, 0, 1, 2, 3, 4, 5, 6, 7, 8, 9, 10, 12], [10, 12]), ([11, 13, 0, 1, 2, 3, 4, 5, 6, 7, 8, 9, 10, 11, 12, 13], [11])])
def laws_FnExactExtend.B41 : List Nat := [0, 1, 0, 7, 0, 31, 0, 127, 255, 511, 1023, 1023, 0, 6143, 16383]
theorem laws_FnExactExtend.tab41 : rtab .any (opsOf Try.f5 41) = laws_FnExactExtend.T41 := by kernel_rfl
theorem laws_FnExactExtend.bits41 : waitsOk laws_FnExactExtend.T41.2 laws_FnExactExtend.B41 = true := by kernel_rfl
set_option maxHeartbeats 8000000 in
set_option maxRecDepth 100000 in
theorem laws_FnExactExtend.calls (k : Nat) (A0_0 : Option Addr) (c0_0 : Nat) (l0_0 : List ByteArray) (a0_1 : Int) (a0_2 : ByteArray) (A1 : Option Addr) (c1 : Nat) (l1 : List (S47)) (a2_0 : Int) (a2_1 : ByteArray) (A3 : Option Addr) (c3 : Nat) (l3 : List ByteArray) (r : Bool) (w : World) (hr0_0 : Kd.C Kd.string w A0_0 l0_0.length l0_0) (hc0_0 : l0_0.length ≤ c0_0) (hr1 : Kd.C k47 w A1 l1.length l1) (hc1 : l1.length ≤ c1) (hr3 : Kd.C Kd.string w A3 l3.length l3) (hc3 : l3.length ≤ c3) (h : laws_FnExactExtend.f k l0_0 a0_1 a0_2 l1 a2_0 a2_1 l3 = some r) :
  Calls Try.prog 5 #[.agg #[.slice A0_0 l0_0.length c0_0, .int .i64 a0_1, .string a0_2], .slice A1 l1.length c1, .agg #[.int .i64 a2_0, .string a2_1], .slice A3 l3.length c3] w fun e w' => e = .returned (.bool r) ∧ Below w.heap.size w w' := by
 have hu49 := Try.underlying49
 have hu47 := Try.underlying47
 have hu31 := Try.underlying31
 have HR0_0 := Aside0.mk hr0_0
 have HC0_0 := Aside0.mk hc0_0
 clear hr0_0 hc0_0
 have HR1 := Aside0.mk hr1
 have HC1 := Aside0.mk hc1
 clear hr1 hc1
 have HR3 := Aside0.mk hr3
 have HC3 := Aside0.mk hc3
 clear hr3 hc3
 have HB := Aside0.mk (Below.refl w.heap.size w)
 have H : ((laws_szLog.f k l0_0 a0_1 a0_2 1048576).bind fun t603 => (if t603 < 0 then (some true) else ((laws_szHeadS.f k l1 t603).bind fun t604 => (if t604 < 0 then (some true) else ((laws_szHead.f a2_0 a2_1 t604).bind fun t605 => (if t605 < 0 then (some true) else ((laws_szStringS.f k l3 t605).bind fun t606 => (if t606 < 0 then (some true) else ((laws_toLog.f k l0_0 a0_1 a0_2).bind fun bt607 => ((laws_toHeadS.f k l1).bind fun t612 => ((laws_toHead.f a2_0 a2_1).bind fun bt615 => ((laws_toStringS.f k l3).bind fun t617 => ((spec_Extend.f k bt607.1 bt607.2.1 bt607.2.2 t612 bt615.1 bt615.2 t617).bind fun bt620 => ((laws_toLog.f k l0_0 a0_1 a0_2).bind fun bt627 => ((laws_toHeadS.f k l1).bind fun t633 => ((laws_toStringS.f k l3).bind fun t636 => ((laws_toHead.f a2_0 a2_1).bind fun bt639 => ((impl_Extend.f k bt627.1 bt627.2.1 bt627.2.2 t633 bt639.1 bt639.2 t636).bind fun bt641 => ((laws_eqLog.f k bt641.1 bt641.2.1 bt641.2.2.1 bt620.1 bt620.2.1 bt620.2.2.1).bind fun t648 => (if t648 = true then (laws_FnExactExtend.j0 k l1 l3 bt620.2.2.2 t633 t636 bt641.2.2.2 (bt641.2.2.2 != bt620.2.2.2) l0_0 a0_1 a0_2 a2_0 a2_1 bt620.1 bt620.2.1 bt620.2.2.1 bt627.1 bt627.2.1 bt627.2.2 bt641.1 bt641.2.1 bt641.2.2.1) else (laws_FnExactExtend.j0 k l1 l3 bt620.2.2.2 t633 t636 bt641.2.2.2 true l0_0 a0_1 a0_2 a2_0 a2_1 bt620.1 bt620.2.1 bt620.2.2.1 bt627.1 bt627.2.1 bt627.2.2 bt641.1 bt641.2.1 bt641.2.2.1))))))))))))))))))))) = some r := h
 clear h
 replace H := bi_ H; obtain ⟨t603, A5, H⟩ := H
 replace H := itd_ H; obtain ⟨c6b0, H⟩ | ⟨c6b0, H⟩ := H
 ·obtain rfl := Option.some.inj H
  go_enter Try.func5, Try.ntmps5
  go_wp2_with (first | ((with_reducible refine gd_ 4 ?_); refine bx_ 4 49 #[.slice A0_0 l0_0.length c0_0, .int .i64 a0_1, .string a0_2] ?_; intro gb601 hg w7 hbox hb; have BK601 := Aside0.mk hbox; have GW601 := gg_ hg HB; have GE601 := GW601; replace HB := ss_ HB hb; clear hb hbox hg) | ((with_reducible refine gd_ 6 ?_); refine bx_ 6 47 #[.int .i64 a2_0, .string a2_1] ?_; intro gb602 hg w8 hbox hb; have BK602 := Aside0.mk hbox; have GW602 := gg_ hg HB; have GE602 := GW602; replace HB := ss_ HB hb; have NB601_602 := nla_ hg BK601; have NB602_601 := nga_ hg BK601; replace BK601 := kl_ BK601 hb; clear hb hbox hg; have hnb9 := NB601_602.out; have hnc9 := NB602_601.out; have hz10 := cz3_ BK601) | ((with_reducible refine gq_ 23 24 ?_); refine gc_ 24 Try.func23 (laws_szLog.calls k _ _ l0_0 a0_1 a0_2 1048576 t603 _ (cb_ HR0_0 HB) HC0_0.out A5.out) ?_; rintro e w11 ⟨rfl, hb⟩; refine ⟨_, rfl, ?_⟩; replace BK601 := kl_ BK601 hb; replace BK602 := kl_ BK602 hb; replace HB := ss_ HB hb; clear hb))
  go_ret
  exact ⟨e2_, bw_ HB⟩
 ·replace H := bi_ H; obtain ⟨t604, A12, H⟩ := H
  replace H := itd_ H; obtain ⟨c13b0, H⟩ | ⟨c13b0, H⟩ := H
  ·obtain rfl := Option.some.inj H
   go_enter Try.func5, Try.ntmps5
   go_wp2_with (first | ((with_reducible refine gd_ 4 ?_); refine bx_ 4 49 #[.slice A0_0 l0_0.length c0_0, .int .i64 a0_1, .string a0_2] ?_; intro gb601 hg w14 hbox hb; have BK601 := Aside0.mk hbox; have GW601 := gg_ hg HB; have GE601 := GW601; replace HB := ss_ HB hb; clear hb hbox hg) | ((with_reducible refine gd_ 6 ?_); refine bx_ 6 47 #[.int .i64 a2_0, .string a2_1] ?_; intro gb602 hg w15 hbox hb; have BK602 := Aside0.mk hbox; have GW602 := gg_ hg HB; have GE602 := GW602; replace HB := ss_ HB hb; have NB601_602 := nla_ hg BK601; have NB602_601 := nga_ hg BK601; replace BK601 := kl_ BK601 hb; clear hb hbox hg; have hnb16 := NB601_602.out; have hnc16 := NB602_601.out; have hz17 := cz3_ BK601) | ((with_reducible refine gq_ 23 24 ?_); refine gc_ 24 Try.func23 (laws_szLog.calls k _ _ l0_0 a0_1 a0_2 1048576 t603 _ (cb_ HR0_0 HB) HC0_0.out A5.out) ?_; rintro e w18 ⟨rfl, hb⟩; refine ⟨_, rfl, ?_⟩; replace BK601 := kl_ BK601 hb; replace BK602 := kl_ BK602 hb; replace HB := ss_ HB hb; clear hb) | ((with_reducible refine gq_ 24 29 ?_); refine gc_ 29 Try.func24 (laws_szHeadS.calls k _ _ l1 t603 t604 _ (cb_ HR1 HB) HC1.out A12.out) ?_; rintro e w19 ⟨rfl, hb⟩; refine ⟨_, rfl, ?_⟩; replace BK601 := kl_ BK601 hb; replace BK602 := kl_ BK602 hb; replace HB := ss_ HB hb; clear hb))
   go_ret
   exact ⟨e2_, bw_ HB⟩
  ·replace H := bi_ H; obtain ⟨t605, A20, H⟩ := H
   replace H := itd_ H; obtain ⟨c21b0, H⟩ | ⟨c21b0, H⟩ := H
   ·obtain rfl := Option.some.inj H
    go_enter Try.func5, Try.ntmps5
    go_wp2_with (first | ((with_reducible refine gd_ 4 ?_); refine bx_ 4 49 #[.slice A0_0 l0_0.length c0_0, .int .i64 a0_1, .string a0_2] ?_; intro gb601 hg w22 hbox hb; have BK601 := Aside0.mk hbox; have GW601 := gg_ hg HB; have GE601 := GW601; replace HB := ss_ HB hb; clear hb hbox hg) | ((with_reducible refine gd_ 6 ?_); refine bx_ 6 47 #[.int .i64 a2_0, .string a2_1] ?_; intro gb602 hg w23 hbox hb; have BK602 := Aside0.mk hbox; have GW602 := gg_ hg HB; have GE602 := GW602; replace HB := ss_ HB hb; have NB601_602 := nla_ hg BK601; have NB602_601 := nga_ hg BK601; replace BK601 := kl_ BK601 hb; clear hb hbox hg; have hnb24 := NB601_602.out; have hnc24 := NB602_601.out; have hz25 := cz3_ BK601) | ((with_reducible refine gq_ 23 24 ?_); refine gc_ 24 Try.func23 (laws_szLog.calls k _ _ l0_0 a0_1 a0_2 1048576 t603 _ (cb_ HR0_0 HB) HC0_0.out A5.out) ?_; rintro e w26 ⟨rfl, hb⟩; refine ⟨_, rfl, ?_⟩; replace BK601 := kl_ BK601 hb; replace BK602 := kl_ BK602 hb; replace HB := ss_ HB hb; clear hb) | ((with_reducible refine gq_ 24 29 ?_); refine gc_ 29 Try.func24 (laws_szHeadS.calls k _ _ l1 t603 t604 _ (cb_ HR1 HB) HC1.out A12.out) ?_; rintro e w27 ⟨rfl, hb⟩; refine ⟨_, rfl, ?_⟩; replace BK601 := kl_ BK601 hb; replace BK602 := kl_ BK602 hb; replace HB := ss_ HB hb; clear hb; have hz28 := cz2_ BK602) | ((with_reducible refine gq_ 25 34 ?_); refine gc_ 34 Try.func25 (laws_szHead.calls a2_0 a2_1 t604 t605 _ A20.out) ?_; rintro e w29 ⟨rfl, hb⟩; refine ⟨_, rfl, ?_⟩; replace BK601 := kl_ BK601 hb; replace BK602 := kl_ BK602 hb; replace HB := ss_ HB hb; clear hb))
    go_ret
    exact ⟨e2_, bw_ HB⟩
   ·replace H := bi_ H; obtain ⟨t606, A30, H⟩ := H
    replace H := itd_ H; obtain ⟨c31b0, H⟩ | ⟨c31b0, H⟩ := H
    ·obtain rfl := Option.some.inj H
     go_enter Try.func5, Try.ntmps5
     go_wp2_with (first | ((with_reducible refine gd_ 4 ?_); refine bx_ 4 49 #[.slice A0_0 l0_0.length c0_0, .int .i64 a0_1, .string a0_2] ?_; intro gb601 hg w32 hbox hb; have BK601 := Aside0.mk hbox; have GW601 := gg_ hg HB; have GE601 := GW601; replace HB := ss_ HB hb; clear hb hbox hg) | ((with_reducible refine gd_ 6 ?_); refine bx_ 6 47 #[.int .i64 a2_0, .string a2_1] ?_; intro gb602 hg w33 hbox hb; have BK602 := Aside0.mk hbox; have GW602 := gg_ hg HB; have GE602 := GW602; replace HB := ss_ HB hb; have NB601_602 := nla_ hg BK601; have NB602_601 := nga_ hg BK601; replace BK601 := kl_ BK601 hb; clear hb hbox hg; have hnb34 := NB601_602.out; have hnc34 := NB602_601.out; have hz35 := cz3_ BK601) | ((with_reducible refine gq_ 23 24 ?_); refine gc_ 24 Try.func23 (laws_szLog.calls k _ _ l0_0 a0_1 a0_2 1048576 t603 _ (cb_ HR0_0 HB) HC0_0.out A5.out) ?_; rintro e w36 ⟨rfl, hb⟩; refine ⟨_, rfl, ?_⟩; replace BK601 := kl_ BK601 hb; replace BK602 := kl_ BK602 hb; replace HB := ss_ HB hb; clear hb) | ((with_reducible refine gq_ 24 29 ?_); refine gc_ 29 Try.func24 (laws_szHeadS.calls k _ _ l1 t603 t604 _ (cb_ HR1 HB) HC1.out A12.out) ?_; rintro e w37 ⟨rfl, hb⟩; refine ⟨_, rfl, ?_⟩; replace BK601 := kl_ BK601 hb; replace BK602 := kl_ BK602 hb; replace HB := ss_ HB hb; clear hb; have hz38 := cz2_ BK602) | ((with_reducible refine gq_ 25 34 ?_); refine gc_ 34 Try.func25 (laws_szHead.calls a2_0 a2_1 t604 t605 _ A20.out) ?_; rintro e w39 ⟨rfl, hb⟩; refine ⟨_, rfl, ?_⟩; replace BK601 := kl_ BK601 hb; replace BK602 := kl_ BK602 hb; replace HB := ss_ HB hb; clear hb) | ((with_reducible refine gq_ 26 39 ?_); refine gc_ 39 Try.func26 (laws_szStringS.calls k _ _ l3 t605 t606 _ (cb_ HR3 HB) HC3.out A30.out) ?_; rintro e w' ⟨rfl, ⟨nd, rfl⟩⟩; refine ⟨_, rfl, ?_⟩))
     go_ret
     exact ⟨e2_, bw_ HB⟩
    ·replace H := bi_ H; obtain ⟨⟨t607, t610, t611⟩, A40, H⟩ := H
     dsimp only at H
     replace H := bi_ H; obtain ⟨t612, A41, H⟩ := H
     replace H := bi_ H; obtain ⟨⟨t615, t616⟩, A42, H⟩ := H
     dsimp only at H
     replace H := bi_ H; obtain ⟨t617, A43, H⟩ := H
     replace H := bi_ H; obtain ⟨⟨t620, t623, t624, t625⟩, A44, H⟩ := H
     dsimp only at H
     replace H := bi_ H; obtain ⟨⟨t627, t630, t631⟩, A45, H⟩ := H
     dsimp only at H
     replace H := bi_ H; obtain ⟨t633, A46, H⟩ := H
     replace H := bi_ H; obtain ⟨t636, A47, H⟩ := H
     replace H := bi_ H; obtain ⟨⟨t639, t640⟩, A48, H⟩ := H
     dsimp only at H
     replace H := bi_ H; obtain ⟨⟨t641, t644, t645, t646⟩, A49, H⟩ := H
     dsimp only at H
     have HC50 := Aside0.mk H
     clear H
     go_enter Try.func5, Try.ntmps5
     try go_wp2_with (first | ((with_reducible refine gd_ 4 ?_); refine bx_ 4 49 #[.slice A0_0 l0_0.length c0_0, .int .i64 a0_1, .string a0_2] ?_; intro gb601 hg w51 hbox hb; have BK601 := Aside0.mk hbox; have GW601 := gg_ hg HB; have GE601 := GW601; replace HB := ss_ HB hb; clear hb hbox hg) | ((with_reducible refine gd_ 6 ?_); refine bx_ 6 47 #[.int .i64 a2_0, .string a2_1] ?_; intro gb602 hg w52 hbox hb; have BK602 := Aside0.mk hbox; have GW602 := gg_ hg HB; have GE602 := GW602; replace HB := ss_ HB hb; have NB601_602 := nla_ hg BK601; have NB602_601 := nga_ hg BK601; replace BK601 := kl_ BK601 hb; clear hb hbox hg; have hnb53 := NB601_602.out; have hnc53 := NB602_601.out; have hz54 := cz3_ BK601) | ((with_reducible refine gq_ 23 24 ?_); refine gc_ 24 Try.func23 (laws_szLog.calls k _ _ l0_0 a0_1 a0_2 1048576 t603 _ (cb_ HR0_0 HB) HC0_0.out A5.out) ?_; rintro e w55 ⟨rfl, hb⟩; refine ⟨_, rfl, ?_⟩; replace BK601 := kl_ BK601 hb; replace BK602 := kl_ BK602 hb; replace HB := ss_ HB hb; clear hb) | ((with_reducible refine gq_ 24 29 ?_); refine gc_ 29 Try.func24 (laws_szHeadS.calls k _ _ l1 t603 t604 _ (cb_ HR1 HB) HC1.out A12.out) ?_; rintro e w56 ⟨rfl, hb⟩; refine ⟨_, rfl, ?_⟩; replace BK601 := kl_ BK601 hb; replace BK602 := kl_ BK602 hb; replace HB := ss_ HB hb; clear hb; have hz57 := cz2_ BK602) | ((with_reducible refine gq_ 25 34 ?_); refine gc_ 34 Try.func25 (laws_szHead.calls a2_0 a2_1 t604 t605 _ A20.out) ?_; rintro e w58 ⟨rfl, hb⟩; refine ⟨_, rfl, ?_⟩; replace BK601 := kl_ BK601 hb; replace BK602 := kl_ BK602 hb; replace HB := ss_ HB hb; clear hb) | ((with_reducible refine gq_ 26 39 ?_); refine gc_ 39 Try.func26 (laws_szStringS.calls k _ _ l3 t605 t606 _ (cb_ HR3 HB) HC3.out A30.out) ?_; rintro e w' ⟨rfl, ⟨nd, rfl⟩⟩; refine ⟨_, rfl, ?_⟩; (try (rw [drewN_self w58]; generalize hq_ : World.drewN w58 _ = w58; have n0_ : Aside0 (w58.heap[gb601]? = some (.cells #[.slice A0_0 l0_0.length c0_0, .int .i64 a0_1, .string a0_2] 49 (0, 0))) := ⟨by rw [← hq_]; exact (kb_ BK601.out)⟩; have n1_ : Aside0 (w58.heap[gb602]? = some (.cells #[.int .i64 a2_0, .string a2_1] 47 (0, 0))) := ⟨by rw [← hq_]; exact (kb_ BK602.out)⟩; have n2_ : Aside0 (Below w.heap.size w w58) := ⟨by rw [← hq_]; exact (bw_ HB)⟩; clear BK601 BK602 HB hq_; have BK601 := n0_; have BK602 := n1_; have HB := n2_; clear n0_ n1_ n2_))))
     replace BK601 := Aside0.mk (blk_drew BK601.out)
     replace BK602 := Aside0.mk (blk_drew BK602.out)
     replace HB := Aside0.mk (below_drew1 HB.out)
     refine start_ (n := 15) (S := fun w' => w'.cell? ⟨gb601, 0, none⟩ = some (.slice A0_0 l0_0.length c0_0) ∧ w'.cell? ⟨gb601, 1, none⟩ = some (.int .i64 a0_1) ∧ w'.cell? ⟨gb601, 2, none⟩ = some (.string a0_2) ∧ w'.cell? ⟨gb602, 0, none⟩ = some (.int .i64 a2_0) ∧ w'.cell? ⟨gb602, 1, none⟩ = some (.string a2_1)) (ds := []) (lz_ 15 0) (by kernel_rfl) rfl rfl ⟨bc0_ BK601.out, bc1_ BK601.out, bc2_ BK601.out, bc0_ BK602.out, bc1_ BK602.out⟩ (fun hHeld => ?_); refine with_tabW laws_FnExactExtend.tab14 laws_FnExactExtend.bits14 (fun HT_ HW_ => ?_)
     generalize w58.drew = w59 at BK601 BK602 HB hHeld ⊢
     refine pt_ 2 45 4 ?_
     refine pt_ 6 49 68 ?_
     refine tt_ 0 43 69 ?_
     refine tt_ 4 47 85 ?_
     refine join_ (σ := Value × Value × Value × Value × Nat) 2 (lz_ 15 8191) (fun s_ => [(44, .agg #[s_.1, .int .i64 t610, .string t611]), (46, s_.2.1), (48, .agg #[.int .i64 t615, .string t616]), (50, s_.2.2.1), (51, .tuple #[.agg #[s_.2.2.2.1, .int .i64 t623, .string t624], .int .i64 t625]), (10, .pointer (some ⟨s_.2.2.2.2, 0, none⟩)), (42, .tuple #[.agg #[s_.2.2.2.1, .int .i64 t623, .string t624], .int .i64 t625]), (52, .agg #[s_.2.2.2.1, .int .i64 t623, .string t624]), (53, .int .i64 t625)]) (fun s_ w' => (w'.cell? ⟨gb601, 0, none⟩ = some (.slice A0_0 l0_0.length c0_0) ∧ w'.cell? ⟨gb601, 1, none⟩ = some (.int .i64 a0_1) ∧ w'.cell? ⟨gb601, 2, none⟩ = some (.string a0_2) ∧ w'.cell? ⟨gb602, 0, none⟩ = some (.int .i64 a2_0) ∧ w'.cell? ⟨gb602, 1, none⟩ = some (.string a2_1)) ∧ (Kd.R Kd.string 9 w' w.heap.size (fun k_ => some k_ ≠ (s_.2.2.1 : Value).ownBlock ∧ some k_ ≠ (s_.2.2.2.1 : Value).ownBlock) s_.1 t607) ∧ (Kd.R k28 28 w' w.heap.size (fun _ => True) s_.2.1 t612) ∧ (Kd.R Kd.string 9 w' w.heap.size (fun k_ => some k_ ≠ (s_.1 : Value).ownBlock ∧ some k_ ≠ (s_.2.2.2.1 : Value).ownBlock) s_.2.2.1 t617) ∧ (Kd.R Kd.string 9 w' w.heap.size (fun k_ => some k_ ≠ (s_.1 : Value).ownBlock ∧ some k_ ≠ (s_.2.2.1 : Value).ownBlock) s_.2.2.2.1 t620) ∧ (w'.heap[gb601]? = some (.cells #[.slice A0_0 l0_0.length c0_0, .int .i64 a0_1, .string a0_2] 49 (0, 0))) ∧ (w'.heap[gb602]? = some (.cells #[.int .i64 a2_0, .string a2_1] 47 (0, 0))) ∧ (w'.heap[s_.2.2.2.2]? = some (.cells #[.slice none 0 0, .int .i64 0, .string (⟨#[]⟩ : ByteArray)] 31 (0, 0))) ∧ (w.heap.size ≤ s_.2.2.2.2) ∧ (w.heap.size ≤ s_.2.2.2.2) ∧ (gb601 ≠ s_.2.2.2.2) ∧ (s_.2.2.2.2 ≠ gb601) ∧ (gb602 ≠ s_.2.2.2.2) ∧ (s_.2.2.2.2 ≠ gb602) ∧ (Below w.heap.size w w')) ?_ ?_
     rotate_left
     ·intro hJ1_3_5_7_8_12
      refine join_ (σ := Value × Value × Value × Value) 3 (lz_ 15 4095) (fun s_ => [(44, .agg #[s_.1, .int .i64 t610, .string t611]), (46, s_.2.1), (48, .agg #[.int .i64 t615, .string t616]), (50, s_.2.2.1), (51, .tuple #[.agg #[s_.2.2.2, .int .i64 t623, .string t624], .int .i64 t625]), (42, .tuple #[.agg #[s_.2.2.2, .int .i64 t623, .string t624], .int .i64 t625]), (52, .agg #[s_.2.2.2, .int .i64 t623, .string t624]), (53, .int .i64 t625)]) (fun s_ w' => Aside0 (Kd.R Kd.string 9 w' w.heap.size (fun k_ => some k_ ≠ (s_.2.2.1 : Value).ownBlock ∧ some k_ ≠ (s_.2.2.2 : Value).ownBlock) s_.1 t607) ∧ Aside0 (Kd.R k28 28 w' w.heap.size (fun _ => True) s_.2.1 t612) ∧ Aside0 (Kd.R Kd.string 9 w' w.heap.size (fun k_ => some k_ ≠ (s_.1 : Value).ownBlock ∧ some k_ ≠ (s_.2.2.2 : Value).ownBlock) s_.2.2.1 t617) ∧ Aside0 (Kd.R Kd.string 9 w' w.heap.size (fun k_ => some k_ ≠ (s_.1 : Value).ownBlock ∧ some k_ ≠ (s_.2.2.1 : Value).ownBlock) s_.2.2.2 t620) ∧ Aside0 (w'.heap[gb601]? = some (.cells #[.slice A0_0 l0_0.length c0_0, .int .i64 a0_1, .string a0_2] 49 (0, 0))) ∧ Aside0 (w'.heap[gb602]? = some (.cells #[.int .i64 a2_0, .string a2_1] 47 (0, 0))) ∧ Aside0 (Below w.heap.size w w')) ?_ ?_
      rotate_left
      ·intro hJ1_3_5_7_8
       refine join_ (σ := Value × Value × Value × Nat) 6 (lz_ 15 4351) (fun s_ => [(44, .agg #[s_.1, .int .i64 t610, .string t611]), (46, s_.2.1), (48, .agg #[.int .i64 t615, .string t616]), (50, s_.2.2.1), (10, .pointer (some ⟨s_.2.2.2, 0, none⟩))]) (fun s_ w' => Aside0 (Kd.R Kd.string 9 w' w.heap.size (fun k_ => some k_ ≠ (s_.2.2.1 : Value).ownBlock) s_.1 t607) ∧ Aside0 (Kd.R k28 28 w' w.heap.size (fun _ => True) s_.2.1 t612) ∧ Aside0 (Kd.R Kd.string 9 w' w.heap.size (fun k_ => some k_ ≠ (s_.1 : Value).ownBlock) s_.2.2.1 t617) ∧ Aside0 (w'.heap[gb601]? = some (.cells #[.slice A0_0 l0_0.length c0_0, .int .i64 a0_1, .string a0_2] 49 (0, 0))) ∧ Aside0 (w'.heap[gb602]? = some (.cells #[.int .i64 a2_0, .string a2_1] 47 (0, 0))) ∧ Aside0 (w'.heap[s_.2.2.2]? = some (.cells #[.slice none 0 0, .int .i64 0, .string (⟨#[]⟩ : ByteArray)] 31 (0, 0))) ∧ Aside0 (w.heap.size ≤ s_.2.2.2) ∧ Aside0 (w.heap.size ≤ s_.2.2.2) ∧ Aside0 (gb601 ≠ s_.2.2.2) ∧ Aside0 (s_.2.2.2 ≠ gb601) ∧ Aside0 (gb602 ≠ s_.2.2.2) ∧ Aside0 (s_.2.2.2 ≠ gb602) ∧ Aside0 (Below w.heap.size w w')) ?_ ?_
       rotate_left
       ·intro hJ1_3_5_7_12
        refine join_ (σ := Value × Value × Value) 7 (lz_ 15 255) (fun s_ => [(44, .agg #[s_.1, .int .i64 t610, .string t611]), (46, s_.2.1), (48, .agg #[.int .i64 t615, .string t616]), (50, s_.2.2)]) (fun s_ w' => Aside0 (Kd.R Kd.string 9 w' w.heap.size (fun k_ => some k_ ≠ (s_.2.2 : Value).ownBlock) s_.1 t607) ∧ Aside0 (Kd.R k28 28 w' w.heap.size (fun _ => True) s_.2.1 t612) ∧ Aside0 (Kd.R Kd.string 9 w' w.heap.size (fun k_ => some k_ ≠ (s_.1 : Value).ownBlock) s_.2.2 t617) ∧ Aside0 (w'.heap[gb601]? = some (.cells #[.slice A0_0 l0_0.length c0_0, .int .i64 a0_1, .string a0_2] 49 (0, 0))) ∧ Aside0 (w'.heap[gb602]? = some (.cells #[.int .i64 a2_0, .string a2_1] 47 (0, 0))) ∧ Aside0 (Below w.heap.size w w')) ?_ ?_
        rotate_left
        ·intro hJ1_3_5_7
         refine join_ (σ := Value × Value × Nat) 7 (lz_ 15 4223) (fun s_ => [(44, .agg #[s_.1, .int .i64 t610, .string t611]), (46, s_.2.1), (48, .agg #[.int .i64 t615, .string t616]), (10, .pointer (some ⟨s_.2.2, 0, none⟩))]) (fun s_ w' => Aside0 (Kd.R Kd.string 9 w' w.heap.size (fun _ => True) s_.1 t607) ∧ Aside0 (Kd.R k28 28 w' w.heap.size (fun _ => True) s_.2.1 t612) ∧ Aside0 (w'.heap[gb601]? = some (.cells #[.slice A0_0 l0_0.length c0_0, .int .i64 a0_1, .string a0_2] 49 (0, 0))) ∧ Aside0 (w'.heap[gb602]? = some (.cells #[.int .i64 a2_0, .string a2_1] 47 (0, 0))) ∧ Aside0 (w'.heap[s_.2.2]? = some (.cells #[.slice none 0 0, .int .i64 0, .string (⟨#[]⟩ : ByteArray)] 31 (0, 0))) ∧ Aside0 (w.heap.size ≤ s_.2.2) ∧ Aside0 (w.heap.size ≤ s_.2.2) ∧ Aside0 (gb601 ≠ s_.2.2) ∧ Aside0 (s_.2.2 ≠ gb601) ∧ Aside0 (gb602 ≠ s_.2.2) ∧ Aside0 (s_.2.2 ≠ gb602) ∧ Aside0 (Below w.heap.size w w')) ?_ ?_
         rotate_left
         ·intro hJ1_3_5_12
          refine join_ (σ := Value × Value) 8 (lz_ 15 127) (fun s_ => [(44, .agg #[s_.1, .int .i64 t610, .string t611]), (46, s_.2), (48, .agg #[.int .i64 t615, .string t616])]) (fun s_ w' => Aside0 (Kd.R Kd.string 9 w' w.heap.size (fun _ => True) s_.1 t607) ∧ Aside0 (Kd.R k28 28 w' w.heap.size (fun _ => True) s_.2 t612) ∧ Aside0 (w'.heap[gb601]? = some (.cells #[.slice A0_0 l0_0.length c0_0, .int .i64 a0_1, .string a0_2] 49 (0, 0))) ∧ Aside0 (w'.heap[gb602]? = some (.cells #[.int .i64 a2_0, .string a2_1] 47 (0, 0))) ∧ Aside0 (Below w.heap.size w w')) ?_ ?_
          rotate_left
          ·intro hJ1_3_5
           refine join_ (σ := Value × Value × Nat) 8 (lz_ 15 4191) (fun s_ => [(44, .agg #[s_.1, .int .i64 t610, .string t611]), (46, s_.2.1), (10, .pointer (some ⟨s_.2.2, 0, none⟩))]) (fun s_ w' => Aside0 (Kd.R Kd.string 9 w' w.heap.size (fun _ => True) s_.1 t607) ∧ Aside0 (Kd.R k28 28 w' w.heap.size (fun _ => True) s_.2.1 t612) ∧ Aside0 (w'.heap[gb601]? = some (.cells #[.slice A0_0 l0_0.length c0_0, .int .i64 a0_1, .string a0_2] 49 (0, 0))) ∧ Aside0 (w'.heap[gb602]? = some (.cells #[.int .i64 a2_0, .string a2_1] 47 (0, 0))) ∧ Aside0 (w'.heap[s_.2.2]? = some (.cells #[.slice none 0 0, .int .i64 0, .string (⟨#[]⟩ : ByteArray)] 31 (0, 0))) ∧ Aside0 (w.heap.size ≤ s_.2.2) ∧ Aside0 (w.heap.size ≤ s_.2.2) ∧ Aside0 (gb601 ≠ s_.2.2) ∧ Aside0 (s_.2.2 ≠ gb601) ∧ Aside0 (gb602 ≠ s_.2.2) ∧ Aside0 (s_.2.2 ≠ gb602) ∧ Aside0 (Below w.heap.size w w')) ?_ ?_
           rotate_left
           ·intro hJ1_3_12
            refine join_ (σ := Value × Value) 9 (lz_ 15 95) (fun s_ => [(44, .agg #[s_.1, .int .i64 t610, .string t611]), (46, s_.2)]) (fun s_ w' => Aside0 (Kd.R Kd.string 9 w' w.heap.size (fun _ => True) s_.1 t607) ∧ Aside0 (Kd.R k28 28 w' w.heap.size (fun _ => True) s_.2 t612) ∧ Aside0 (w'.heap[gb601]? = some (.cells #[.slice A0_0 l0_0.length c0_0, .int .i64 a0_1, .string a0_2] 49 (0, 0))) ∧ Aside0 (w'.heap[gb602]? = some (.cells #[.int .i64 a2_0, .string a2_1] 47 (0, 0))) ∧ Aside0 (Below w.heap.size w w')) ?_ ?_
            rotate_left
            ·intro hJ1_3
             refine join_ (σ := Value × Nat) 9 (lz_ 15 4183) (fun s_ => [(44, .agg #[s_.1, .int .i64 t610, .string t611]), (10, .pointer (some ⟨s_.2, 0, none⟩))]) (fun s_ w' => Aside0 (Kd.R Kd.string 9 w' w.heap.size (fun _ => True) s_.1 t607) ∧ Aside0 (w'.heap[gb601]? = some (.cells #[.slice A0_0 l0_0.length c0_0, .int .i64 a0_1, .string a0_2] 49 (0, 0))) ∧ Aside0 (w'.heap[gb602]? = some (.cells #[.int .i64 a2_0, .string a2_1] 47 (0, 0))) ∧ Aside0 (w'.heap[s_.2]? = some (.cells #[.slice none 0 0, .int .i64 0, .string (⟨#[]⟩ : ByteArray)] 31 (0, 0))) ∧ Aside0 (w.heap.size ≤ s_.2) ∧ Aside0 (w.heap.size ≤ s_.2) ∧ Aside0 (gb601 ≠ s_.2) ∧ Aside0 (s_.2 ≠ gb601) ∧ Aside0 (gb602 ≠ s_.2) ∧ Aside0 (s_.2 ≠ gb602) ∧ Aside0 (Below w.heap.size w w')) ?_ ?_
             rotate_left
             ·intro hJ1_12
              refine join_ (σ := Value) 10 (lz_ 15 87) (fun s_ => [(44, .agg #[s_, .int .i64 t610, .string t611])]) (fun s_ w' => Aside0 (Kd.R Kd.string 9 w' w.heap.size (fun _ => True) s_ t607) ∧ Aside0 (w'.heap[gb601]? = some (.cells #[.slice A0_0 l0_0.length c0_0, .int .i64 a0_1, .string a0_2] 49 (0, 0))) ∧ Aside0 (w'.heap[gb602]? = some (.cells #[.int .i64 a2_0, .string a2_1] 47 (0, 0))) ∧ Aside0 (Below w.heap.size w w')) ?_ ?_
              rotate_left
              ·intro hJ1
               refine join_ (σ := Nat) 10 (lz_ 15 4181) (fun s_ => [(10, .pointer (some ⟨s_, 0, none⟩))]) (fun s_ w' => Aside0 (w'.heap[gb601]? = some (.cells #[.slice A0_0 l0_0.length c0_0, .int .i64 a0_1, .string a0_2] 49 (0, 0))) ∧ Aside0 (w'.heap[gb602]? = some (.cells #[.int .i64 a2_0, .string a2_1] 47 (0, 0))) ∧ Aside0 (w'.heap[s_]? = some (.cells #[.slice none 0 0, .int .i64 0, .string (⟨#[]⟩ : ByteArray)] 31 (0, 0))) ∧ Aside0 (w.heap.size ≤ s_) ∧ Aside0 (w.heap.size ≤ s_) ∧ Aside0 (gb601 ≠ s_) ∧ Aside0 (s_ ≠ gb601) ∧ Aside0 (gb602 ≠ s_) ∧ Aside0 (s_ ≠ gb602) ∧ Aside0 (Below w.heap.size w w')) ?_ ?_
               rotate_left
               ·intro hJ12
                refine two_ (i := 1) (j := 12) (Ni := some 44) (Nj := some 10) (lz_ 15 87) (lz_ 15 4181) rfl rfl rfl rfl (two_of HT_.out (by kernel_rfl)) (by decide) (by decide) (fun K hK => ?_) (fun K hK => ?_)
                ·skip
                 refine gf_ Try.func27 (laws_toLog.calls k _ _ l0_0 a0_1 a0_2 t607 t610 t611 _ (cb_ HR0_0 HB) HC0_0.out A40.out) ?_
                 rintro e w60 ⟨v608, rfl, ho0, hb⟩
                 refine ⟨_, rfl, ?_⟩
                 have HO609 := Aside0.mk (Kd.R_lower ho0 (sz_ HB))
                 replace BK601 := kl_ BK601 hb
                 replace BK602 := kl_ BK602 hb
                 replace HB := ss_ HB hb
                 clear hb ho0
                 refine hK.out _ _ ⟨bc0_ BK601.out, bc1_ BK601.out, bc2_ BK601.out, bc0_ BK602.out, bc1_ BK602.out⟩ (fun hHeld => ?_)
                 clear hK K
                 refine no_ 44 ?_
                 exact nj_ (hJ1 (v608) _ ⟨⟨kr_ HO609.out⟩, ⟨kb_ BK601.out⟩, ⟨kb_ BK602.out⟩, ⟨bw_ HB⟩⟩)
                ·skip
                 refine box_step ?hg (N := 10) ?hd (cs := #[.slice none 0 0, .int .i64 0, .string (⟨#[]⟩ : ByteArray)]) (t := 31) ?hr ?_; (case hd => rfl); (case hg => rfl); (case hr => first | (go_simp; done) | (go_simp; rfl))
                 intro gb626 hg w60 hbox hb
                 have BK626 := Aside0.mk hbox
                 have GW626 := gg_ hg HB
                 have GE626 := GW626
                 replace HB := ss_ HB hb
                 have NB601_626 := nla_ hg BK601
                 have NB626_601 := nga_ hg BK601
                 replace BK601 := kl_ BK601 hb
                 have NB602_626 := nla_ hg BK602
                 have NB626_602 := nga_ hg BK602
                 replace BK602 := kl_ BK602 hb
                 clear hb hbox hg
                 refine hK.out _ _ ⟨bc0_ BK601.out, bc1_ BK601.out, bc2_ BK601.out, bc0_ BK602.out, bc1_ BK602.out⟩ (fun hHeld => ?_)
                 clear hK K
                 refine no_ 10 ?_
                 exact nj_ (hJ12 (gb626) _ ⟨⟨kb_ BK601.out⟩, ⟨kb_ BK602.out⟩, ⟨kb_ BK626.out⟩, GW626, GE626, NB601_626, NB626_601, NB602_626, NB626_602, ⟨bw_ HB⟩⟩)
               ·clear BK601 BK602 HB
                rintro gb626 w61 ⟨BK601, BK602, BK626, GW626, GE626, NB601_626, NB626_601, NB602_626, NB626_602, HB⟩
                have hHeld := hn5_ (bc0_ BK601.out) (bc1_ BK601.out) (bc2_ BK601.out) (bc0_ BK602.out) (bc1_ BK602.out)
                refine nj_ ?_
                refine one_ (i := 1) (N := some 44) (lz_ 15 4183) rfl rfl (one_of HT_.out (by kernel_rfl)) (by decide) (fun K hK => ?_)
                refine gf_ Try.func27 (laws_toLog.calls k _ _ l0_0 a0_1 a0_2 t607 t610 t611 _ (cb_ HR0_0 HB) HC0_0.out A40.out) ?_
                rintro e w62 ⟨v608, rfl, ho0, hb⟩
                refine ⟨_, rfl, ?_⟩
                have HO609 := Aside0.mk (Kd.R_lower ho0 (sz_ HB))
                replace BK601 := kl_ BK601 hb
                replace BK602 := kl_ BK602 hb
                replace BK626 := kl_ BK626 hb
                replace HB := ss_ HB hb
                clear hb ho0
                refine hK.out _ _ ⟨bc0_ BK601.out, bc1_ BK601.out, bc2_ BK601.out, bc0_ BK602.out, bc1_ BK602.out⟩ (fun hHeld => ?_)
                clear hK K
                refine no_ 44 ?_
                exact nj_ (hJ1_12 (v608, gb626) _ ⟨⟨kr_ HO609.out⟩, ⟨kb_ BK601.out⟩, ⟨kb_ BK602.out⟩, ⟨kb_ BK626.out⟩, GW626, GE626, NB601_626, NB626_601, NB602_626, NB626_602, ⟨bw_ HB⟩⟩)
              ·clear BK601 BK602 HB
               rintro v608 w61 ⟨HO609, BK601, BK602, HB⟩
               have hHeld := hn5_ (bc0_ BK601.out) (bc1_ BK601.out) (bc2_ BK601.out) (bc0_ BK602.out) (bc1_ BK602.out)
               refine nj_ ?_
               refine two_ (i := 3) (j := 12) (Ni := some 46) (Nj := some 10) (lz_ 15 95) (lz_ 15 4183) rfl rfl rfl rfl (two_of HT_.out (by kernel_rfl)) (by decide) (by decide) (fun K hK => ?_) (fun K hK => ?_)
               ·skip
                refine gf_ Try.func28 (laws_toHeadS.calls k _ _ l1 t612 _ (cb_ HR1 HB) HC1.out A41.out) ?_
                rintro e w62 ⟨v613, rfl, ho0, hb⟩
                refine ⟨_, rfl, ?_⟩
                replace HO609 := rb_ HO609 hb
                have HO614 := Aside0.mk (Kd.R_lower ho0 (sz_ HB))
                replace BK601 := kl_ BK601 hb
                replace BK602 := kl_ BK602 hb
                replace HB := ss_ HB hb
                clear hb ho0
                refine hK.out _ _ ⟨bc0_ BK601.out, bc1_ BK601.out, bc2_ BK601.out, bc0_ BK602.out, bc1_ BK602.out⟩ (fun hHeld => ?_)
                clear hK K
                refine no_ 46 ?_
                exact nj_ (hJ1_3 (v608, v613) _ ⟨⟨kr_ HO609.out⟩, ⟨kr_ HO614.out⟩, ⟨kb_ BK601.out⟩, ⟨kb_ BK602.out⟩, ⟨bw_ HB⟩⟩)
               ·skip
                refine box_step ?hg (N := 10) ?hd (cs := #[.slice none 0 0, .int .i64 0, .string (⟨#[]⟩ : ByteArray)]) (t := 31) ?hr ?_; (case hd => rfl); (case hg => rfl); (case hr => first | (go_simp; done) | (go_simp; rfl))
                intro gb626 hg w62 hbox hb
                replace HO609 := rb_ HO609 hb
                have BK626 := Aside0.mk hbox
                have GW626 := gg_ hg HB
                have GE626 := GW626
                replace HB := ss_ HB hb
                have NB601_626 := nla_ hg BK601
                have NB626_601 := nga_ hg BK601
                replace BK601 := kl_ BK601 hb
                have NB602_626 := nla_ hg BK602
                have NB626_602 := nga_ hg BK602
                replace BK602 := kl_ BK602 hb
                clear hb hbox hg
                refine hK.out _ _ ⟨bc0_ BK601.out, bc1_ BK601.out, bc2_ BK601.out, bc0_ BK602.out, bc1_ BK602.out⟩ (fun hHeld => ?_)
                clear hK K
                refine no_ 10 ?_
                exact nj_ (hJ1_12 (v608, gb626) _ ⟨⟨kr_ HO609.out⟩, ⟨kb_ BK601.out⟩, ⟨kb_ BK602.out⟩, ⟨kb_ BK626.out⟩, GW626, GE626, NB601_626, NB626_601, NB602_626, NB626_602, ⟨bw_ HB⟩⟩)
             ·clear BK601 BK602 HB
              rintro ⟨v608, gb626⟩ w62 ⟨HO609, BK601, BK602, BK626, GW626, GE626, NB601_626, NB626_601, NB602_626, NB626_602, HB⟩
              dsimp only at HO609 BK626 GW626 GE626 NB601_626 NB626_601 NB602_626 NB626_602
              have hHeld := hn5_ (bc0_ BK601.out) (bc1_ BK601.out) (bc2_ BK601.out) (bc0_ BK602.out) (bc1_ BK602.out)
              refine nj_ ?_
              refine one_ (i := 3) (N := some 46) (lz_ 15 4191) rfl rfl (one_of HT_.out (by kernel_rfl)) (by decide) (fun K hK => ?_)
              refine gf_ Try.func28 (laws_toHeadS.calls k _ _ l1 t612 _ (cb_ HR1 HB) HC1.out A41.out) ?_
              rintro e w63 ⟨v613, rfl, ho0, hb⟩
              refine ⟨_, rfl, ?_⟩
              replace HO609 := rb_ HO609 hb
              have HO614 := Aside0.mk (Kd.R_lower ho0 (sz_ HB))
              replace BK601 := kl_ BK601 hb
              replace BK602 := kl_ BK602 hb
              replace BK626 := kl_ BK626 hb
              replace HB := ss_ HB hb
              clear hb ho0
              refine hK.out _ _ ⟨bc0_ BK601.out, bc1_ BK601.out, bc2_ BK601.out, bc0_ BK602.out, bc1_ BK602.out⟩ (fun hHeld => ?_)
              clear hK K
              refine no_ 46 ?_
              exact nj_ (hJ1_3_12 (v608, v613, gb626) _ ⟨⟨kr_ HO609.out⟩, ⟨kr_ HO614.out⟩, ⟨kb_ BK601.out⟩, ⟨kb_ BK602.out⟩, ⟨kb_ BK626.out⟩, GW626, GE626, NB601_626, NB626_601, NB602_626, NB626_602, ⟨bw_ HB⟩⟩)
            ·clear BK601 BK602 HB
             rintro ⟨v608, v613⟩ w62 ⟨HO609, HO614, BK601, BK602, HB⟩
             dsimp only at HO609 HO614
             have hHeld := hn5_ (bc0_ BK601.out) (bc1_ BK601.out) (bc2_ BK601.out) (bc0_ BK602.out) (bc1_ BK602.out)
             refine nj_ ?_
             refine two_ (i := 5) (j := 12) (Ni := some 48) (Nj := some 10) (lz_ 15 127) (lz_ 15 4191) rfl rfl rfl rfl (two_of HT_.out (by kernel_rfl)) (by decide) (by decide) (fun K hK => ?_) (fun K hK => ?_)
             ·skip
              refine gf_ Try.func29 (laws_toHead.calls a2_0 a2_1 t615 t616 _ A42.out) ?_
              rintro e w63 ⟨rfl, hb⟩
              refine ⟨_, rfl, ?_⟩
              replace HO609 := rb_ HO609 hb
              replace HO614 := rb_ HO614 hb
              replace BK601 := kl_ BK601 hb
              replace BK602 := kl_ BK602 hb
              replace HB := ss_ HB hb
              clear hb
              refine hK.out _ _ ⟨bc0_ BK601.out, bc1_ BK601.out, bc2_ BK601.out, bc0_ BK602.out, bc1_ BK602.out⟩ (fun hHeld => ?_)
              clear hK K
              refine no_ 48 ?_
              exact nj_ (hJ1_3_5 (v608, v613) _ ⟨⟨kr_ HO609.out⟩, ⟨kr_ HO614.out⟩, ⟨kb_ BK601.out⟩, ⟨kb_ BK602.out⟩, ⟨bw_ HB⟩⟩)
             ·skip
              refine box_step ?hg (N := 10) ?hd (cs := #[.slice none 0 0, .int .i64 0, .string (⟨#[]⟩ : ByteArray)]) (t := 31) ?hr ?_; (case hd => rfl); (case hg => rfl); (case hr => first | (go_simp; done) | (go_simp; rfl))
              intro gb626 hg w63 hbox hb
              replace HO609 := rb_ HO609 hb
              replace HO614 := rb_ HO614 hb
              have BK626 := Aside0.mk hbox
              have GW626 := gg_ hg HB
              have GE626 := GW626
              replace HB := ss_ HB hb
              have NB601_626 := nla_ hg BK601
              have NB626_601 := nga_ hg BK601
              replace BK601 := kl_ BK601 hb
              have NB602_626 := nla_ hg BK602
              have NB626_602 := nga_ hg BK602
              replace BK602 := kl_ BK602 hb
              clear hb hbox hg
              refine hK.out _ _ ⟨bc0_ BK601.out, bc1_ BK601.out, bc2_ BK601.out, bc0_ BK602.out, bc1_ BK602.out⟩ (fun hHeld => ?_)
              clear hK K
              refine no_ 10 ?_
              exact nj_ (hJ1_3_12 (v608, v613, gb626) _ ⟨⟨kr_ HO609.out⟩, ⟨kr_ HO614.out⟩, ⟨kb_ BK601.out⟩, ⟨kb_ BK602.out⟩, ⟨kb_ BK626.out⟩, GW626, GE626, NB601_626, NB626_601, NB602_626, NB626_602, ⟨bw_ HB⟩⟩)
           ·clear BK601 BK602 HB
            rintro ⟨v608, v613, gb626⟩ w63 ⟨HO609, HO614, BK601, BK602, BK626, GW626, GE626, NB601_626, NB626_601, NB602_626, NB626_602, HB⟩
            dsimp only at HO609 HO614 BK626 GW626 GE626 NB601_626 NB626_601 NB602_626 NB626_602
            have hHeld := hn5_ (bc0_ BK601.out) (bc1_ BK601.out) (bc2_ BK601.out) (bc0_ BK602.out) (bc1_ BK602.out)
            refine nj_ ?_
            refine one_ (i := 5) (N := some 48) (lz_ 15 4223) rfl rfl (one_of HT_.out (by kernel_rfl)) (by decide) (fun K hK => ?_)
            refine gf_ Try.func29 (laws_toHead.calls a2_0 a2_1 t615 t616 _ A42.out) ?_
            rintro e w64 ⟨rfl, hb⟩
            refine ⟨_, rfl, ?_⟩
            replace HO609 := rb_ HO609 hb
            replace HO614 := rb_ HO614 hb
            replace BK601 := kl_ BK601 hb
            replace BK602 := kl_ BK602 hb
            replace BK626 := kl_ BK626 hb
            replace HB := ss_ HB hb
            clear hb
            refine hK.out _ _ ⟨bc0_ BK601.out, bc1_ BK601.out, bc2_ BK601.out, bc0_ BK602.out, bc1_ BK602.out⟩ (fun hHeld => ?_)
            clear hK K
            refine no_ 48 ?_
            exact nj_ (hJ1_3_5_12 (v608, v613, gb626) _ ⟨⟨kr_ HO609.out⟩, ⟨kr_ HO614.out⟩, ⟨kb_ BK601.out⟩, ⟨kb_ BK602.out⟩, ⟨kb_ BK626.out⟩, GW626, GE626, NB601_626, NB626_601, NB602_626, NB626_602, ⟨bw_ HB⟩⟩)
          ·clear BK601 BK602 HB
           rintro ⟨v608, v613⟩ w63 ⟨HO609, HO614, BK601, BK602, HB⟩
           dsimp only at HO609 HO614
           have hHeld := hn5_ (bc0_ BK601.out) (bc1_ BK601.out) (bc2_ BK601.out) (bc0_ BK602.out) (bc1_ BK602.out)
           refine nj_ ?_
           refine two_ (i := 7) (j := 12) (Ni := some 50) (Nj := some 10) (lz_ 15 255) (lz_ 15 4223) rfl rfl rfl rfl (two_of HT_.out (by kernel_rfl)) (by decide) (by decide) (fun K hK => ?_) (fun K hK => ?_)
           ·skip
            refine gf_ Try.func30 (laws_toStringS.calls k _ _ l3 t617 _ (cb_ HR3 HB) HC3.out A43.out) ?_
            rintro e w64 ⟨v618, rfl, ho0, hb⟩
            refine ⟨_, rfl, ?_⟩
            replace HO614 := rb_ HO614 hb
            have HO619 := Aside0.mk (Kd.R_lower (Kd.R_new' ho0 (lt_ HO609)) (sz_ HB))
            replace HO609 := re_ HO609 ho0 hb
            replace BK601 := kl_ BK601 hb
            replace BK602 := kl_ BK602 hb
            replace HB := ss_ HB hb
            clear hb ho0
            refine hK.out _ _ ⟨bc0_ BK601.out, bc1_ BK601.out, bc2_ BK601.out, bc0_ BK602.out, bc1_ BK602.out⟩ (fun hHeld => ?_)
            clear hK K
            refine no_ 50 ?_
            exact nj_ (hJ1_3_5_7 (v608, v613, v618) _ ⟨⟨kr_ (Kd.R_mono HO609.out (fun _ hk => hk.2))⟩, ⟨kr_ HO614.out⟩, ⟨kr_ (Kd.R_mono HO619.out (fun _ hk => hk.2))⟩, ⟨kb_ BK601.out⟩, ⟨kb_ BK602.out⟩, ⟨bw_ HB⟩⟩)
           ·skip
            refine box_step ?hg (N := 10) ?hd (cs := #[.slice none 0 0, .int .i64 0, .string (⟨#[]⟩ : ByteArray)]) (t := 31) ?hr ?_; (case hd => rfl); (case hg => rfl); (case hr => first | (go_simp; done) | (go_simp; rfl))
            intro gb626 hg w64 hbox hb
            replace HO609 := rb_ HO609 hb
            replace HO614 := rb_ HO614 hb
            have BK626 := Aside0.mk hbox
            have GW626 := gg_ hg HB
            have GE626 := GW626
            replace HB := ss_ HB hb
            have NB601_626 := nla_ hg BK601
            have NB626_601 := nga_ hg BK601
            replace BK601 := kl_ BK601 hb
            have NB602_626 := nla_ hg BK602
            have NB626_602 := nga_ hg BK602
            replace BK602 := kl_ BK602 hb
            clear hb hbox hg
            refine hK.out _ _ ⟨bc0_ BK601.out, bc1_ BK601.out, bc2_ BK601.out, bc0_ BK602.out, bc1_ BK602.out⟩ (fun hHeld => ?_)
            clear hK K
            refine no_ 10 ?_
            exact nj_ (hJ1_3_5_12 (v608, v613, gb626) _ ⟨⟨kr_ HO609.out⟩, ⟨kr_ HO614.out⟩, ⟨kb_ BK601.out⟩, ⟨kb_ BK602.out⟩, ⟨kb_ BK626.out⟩, GW626, GE626, NB601_626, NB626_601, NB602_626, NB626_602, ⟨bw_ HB⟩⟩)
         ·clear BK601 BK602 HB
          rintro ⟨v608, v613, gb626⟩ w64 ⟨HO609, HO614, BK601, BK602, BK626, GW626, GE626, NB601_626, NB626_601, NB602_626, NB626_602, HB⟩
          dsimp only at HO609 HO614 BK626 GW626 GE626 NB601_626 NB626_601 NB602_626 NB626_602
          have hHeld := hn5_ (bc0_ BK601.out) (bc1_ BK601.out) (bc2_ BK601.out) (bc0_ BK602.out) (bc1_ BK602.out)
          refine nj_ ?_
          refine one_ (i := 7) (N := some 50) (lz_ 15 4351) rfl rfl (one_of HT_.out (by kernel_rfl)) (by decide) (fun K hK => ?_)
          refine gf_ Try.func30 (laws_toStringS.calls k _ _ l3 t617 _ (cb_ HR3 HB) HC3.out A43.out) ?_
          rintro e w65 ⟨v618, rfl, ho0, hb⟩
          refine ⟨_, rfl, ?_⟩
          replace HO614 := rb_ HO614 hb
          have HO619 := Aside0.mk (Kd.R_lower (Kd.R_new' ho0 (lt_ HO609)) (sz_ HB))
          replace HO609 := re_ HO609 ho0 hb
          replace BK601 := kl_ BK601 hb
          replace BK602 := kl_ BK602 hb
          replace BK626 := kl_ BK626 hb
          replace HB := ss_ HB hb
          clear hb ho0
          refine hK.out _ _ ⟨bc0_ BK601.out, bc1_ BK601.out, bc2_ BK601.out, bc0_ BK602.out, bc1_ BK602.out⟩ (fun hHeld => ?_)
          clear hK K
          refine no_ 50 ?_
          exact nj_ (hJ1_3_5_7_12 (v608, v613, v618, gb626) _ ⟨⟨kr_ (Kd.R_mono HO609.out (fun _ hk => hk.2))⟩, ⟨kr_ HO614.out⟩, ⟨kr_ (Kd.R_mono HO619.out (fun _ hk => hk.2))⟩, ⟨kb_ BK601.out⟩, ⟨kb_ BK602.out⟩, ⟨kb_ BK626.out⟩, GW626, GE626, NB601_626, NB626_601, NB602_626, NB626_602, ⟨bw_ HB⟩⟩)
        ·clear BK601 BK602 HB
         rintro ⟨v608, v613, v618⟩ w64 ⟨HO609, HO614, HO619, BK601, BK602, HB⟩
         dsimp only at HO609 HO614 HO619
         have hHeld := hn5_ (bc0_ BK601.out) (bc1_ BK601.out) (bc2_ BK601.out) (bc0_ BK602.out) (bc1_ BK602.out)
         obtain ⟨Ao65, co65, eo65⟩ := Kd.R_slice HO609.out
         (first | subst eo65 | (injection eo65 with f1_ f2_ f3_; have f4_ := f1_.symm; have f5_ := f3_.symm; clear f1_ f2_ f3_; subst f4_; subst f5_))
         obtain ⟨Ao66, co66, eo66⟩ := Kd.R_slice HO614.out
         (first | subst eo66 | (injection eo66 with f1_ f2_ f3_; have f4_ := f1_.symm; have f5_ := f3_.symm; clear f1_ f2_ f3_; subst f4_; subst f5_))
         obtain ⟨Ao67, co67, eo67⟩ := Kd.R_slice HO619.out
         (first | subst eo67 | (injection eo67 with f1_ f2_ f3_; have f4_ := f1_.symm; have f5_ := f3_.symm; clear f1_ f2_ f3_; subst f4_; subst f5_))
         refine nj_ ?_
         refine two_ (i := 8) (j := 12) (Ni := some 51) (Nj := some 10) (lz_ 15 511) (lz_ 15 4351) rfl rfl rfl rfl (two_of HT_.out (by kernel_rfl)) (by decide) (by decide) (fun K hK => ?_) (fun K hK => ?_)
         ·skip
          refine gf_ Try.func21 (spec_Extend.calls k _ _ t607 t610 t611 _ _ t612 t615 t616 _ _ t617 t620 t623 t624 t625 _ (ch_ HO609) (cl_ HO609) (ch_ HO614) (cl_ HO614) (ch_ HO619) (cl_ HO619) A44.out) ?_
          rintro e w68 ⟨v621, rfl, ho0, hb⟩
          refine ⟨_, rfl, ?_⟩
          replace HO614 := rb_ HO614 hb
          have HO622 := Aside0.mk (Kd.R_lower (Kd.R_new' (Kd.R_new' ho0 (lt_ HO609)) (lt_ HO619)) (sz_ HB))
          replace HO609 := re_ HO609 ho0 hb
          replace HO619 := re_ HO619 ho0 hb
          replace BK601 := kl_ BK601 hb
          replace BK602 := kl_ BK602 hb
          replace HB := ss_ HB hb
          clear hb ho0
          refine hK.out _ _ ⟨bc0_ BK601.out, bc1_ BK601.out, bc2_ BK601.out, bc0_ BK602.out, bc1_ BK602.out⟩ (fun hHeld => ?_)
          clear hK K
          refine no_ 51 ?_
          refine pt_ 9 42 1023 ?_
          refine pt_ 10 52 2047 ?_
          refine pt_ 11 53 4095 ?_
          exact nj_ (hJ1_3_5_7_8 (.slice Ao65 t607.length co65, .slice Ao66 t612.length co66, .slice Ao67 t617.length co67, v621) _ ⟨⟨kr_ HO609.out⟩, ⟨kr_ HO614.out⟩, ⟨kr_ HO619.out⟩, ⟨kr_ (Kd.R_mono HO622.out (fun _ hk => ⟨hk.1.2, hk.2⟩))⟩, ⟨kb_ BK601.out⟩, ⟨kb_ BK602.out⟩, ⟨bw_ HB⟩⟩)
         ·skip
          refine box_step ?hg (N := 10) ?hd (cs := #[.slice none 0 0, .int .i64 0, .string (⟨#[]⟩ : ByteArray)]) (t := 31) ?hr ?_; (case hd => rfl); (case hg => rfl); (case hr => first | (go_simp; done) | (go_simp; rfl))
          intro gb626 hg w65 hbox hb
          replace HO609 := rb_ HO609 hb
          replace HO614 := rb_ HO614 hb
          replace HO619 := rb_ HO619 hb
          have BK626 := Aside0.mk hbox
          have GW626 := gg_ hg HB
          have GE626 := GW626
          replace HB := ss_ HB hb
          have NB601_626 := nla_ hg BK601
          have NB626_601 := nga_ hg BK601
          replace BK601 := kl_ BK601 hb
          have NB602_626 := nla_ hg BK602
          have NB626_602 := nga_ hg BK602
          replace BK602 := kl_ BK602 hb
          clear hb hbox hg
          refine hK.out _ _ ⟨bc0_ BK601.out, bc1_ BK601.out, bc2_ BK601.out, bc0_ BK602.out, bc1_ BK602.out⟩ (fun hHeld => ?_)
          clear hK K
          refine no_ 10 ?_
          exact nj_ (hJ1_3_5_7_12 (.slice Ao65 t607.length co65, .slice Ao66 t612.length co66, .slice Ao67 t617.length co67, gb626) _ ⟨⟨kr_ HO609.out⟩, ⟨kr_ HO614.out⟩, ⟨kr_ HO619.out⟩, ⟨kb_ BK601.out⟩, ⟨kb_ BK602.out⟩, ⟨kb_ BK626.out⟩, GW626, GE626, NB601_626, NB626_601, NB602_626, NB626_602, ⟨bw_ HB⟩⟩)
       ·clear BK601 BK602 HB
        rintro ⟨v608, v613, v618, gb626⟩ w65 ⟨HO609, HO614, HO619, BK601, BK602, BK626, GW626, GE626, NB601_626, NB626_601, NB602_626, NB626_602, HB⟩
        dsimp only at HO609 HO614 HO619 BK626 GW626 GE626 NB601_626 NB626_601 NB602_626 NB626_602
        have hHeld := hn5_ (bc0_ BK601.out) (bc1_ BK601.out) (bc2_ BK601.out) (bc0_ BK602.out) (bc1_ BK602.out)
        obtain ⟨Ao66, co66, eo66⟩ := Kd.R_slice HO609.out
        (first | subst eo66 | (injection eo66 with f1_ f2_ f3_; have f4_ := f1_.symm; have f5_ := f3_.symm; clear f1_ f2_ f3_; subst f4_; subst f5_))
        obtain ⟨Ao67, co67, eo67⟩ := Kd.R_slice HO614.out
        (first | subst eo67 | (injection eo67 with f1_ f2_ f3_; have f4_ := f1_.symm; have f5_ := f3_.symm; clear f1_ f2_ f3_; subst f4_; subst f5_))
        obtain ⟨Ao68, co68, eo68⟩ := Kd.R_slice HO619.out
        (first | subst eo68 | (injection eo68 with f1_ f2_ f3_; have f4_ := f1_.symm; have f5_ := f3_.symm; clear f1_ f2_ f3_; subst f4_; subst f5_))
        refine nj_ ?_
        refine one_ (i := 8) (N := some 51) (lz_ 15 4607) rfl rfl (one_of HT_.out (by kernel_rfl)) (by decide) (fun K hK => ?_)
        refine gf_ Try.func21 (spec_Extend.calls k _ _ t607 t610 t611 _ _ t612 t615 t616 _ _ t617 t620 t623 t624 t625 _ (ch_ HO609) (cl_ HO609) (ch_ HO614) (cl_ HO614) (ch_ HO619) (cl_ HO619) A44.out) ?_
        rintro e w69 ⟨v621, rfl, ho0, hb⟩
        refine ⟨_, rfl, ?_⟩
        replace HO614 := rb_ HO614 hb
        have HO622 := Aside0.mk (Kd.R_lower (Kd.R_new' (Kd.R_new' ho0 (lt_ HO609)) (lt_ HO619)) (sz_ HB))
        replace HO609 := re_ HO609 ho0 hb
        replace HO619 := re_ HO619 ho0 hb
        replace BK601 := kl_ BK601 hb
        replace BK602 := kl_ BK602 hb
        replace BK626 := kl_ BK626 hb
        replace HB := ss_ HB hb
        clear hb ho0
        refine hK.out _ _ ⟨bc0_ BK601.out, bc1_ BK601.out, bc2_ BK601.out, bc0_ BK602.out, bc1_ BK602.out⟩ (fun hHeld => ?_)
        clear hK K
        refine no_ 51 ?_
        refine pt_ 9 42 5119 ?_
        refine pt_ 10 52 6143 ?_
        refine pt_ 11 53 8191 ?_
        exact nj_ (hJ1_3_5_7_8_12 (.slice Ao66 t607.length co66, .slice Ao67 t612.length co67, .slice Ao68 t617.length co68, v621, gb626) _ ⟨hHeld, (kr_ HO609.out), (kr_ HO614.out), (kr_ HO619.out), (kr_ (Kd.R_mono HO622.out (fun _ hk => ⟨hk.1.2, hk.2⟩))), (kb_ BK601.out), (kb_ BK602.out), (kb_ BK626.out), GW626.out, GE626.out, NB601_626.out, NB626_601.out, NB602_626.out, NB626_602.out, (bw_ HB)⟩)
      ·clear BK601 BK602 HB
       rintro ⟨v608, v613, v618, v621⟩ w68 ⟨HO609, HO614, HO619, HO622, BK601, BK602, HB⟩
       dsimp only at HO609 HO614 HO619 HO622
       have hHeld := hn5_ (bc0_ BK601.out) (bc1_ BK601.out) (bc2_ BK601.out) (bc0_ BK602.out) (bc1_ BK602.out)
       refine nj_ ?_
       refine one_ (i := 12) (N := some 10) (lz_ 15 8191) rfl rfl (one_of HT_.out (by kernel_rfl)) (by decide) (fun K hK => ?_)
       refine box_step ?hg (N := 10) ?hd (cs := #[.slice none 0 0, .int .i64 0, .string (⟨#[]⟩ : ByteArray)]) (t := 31) ?hr ?_; (case hd => rfl); (case hg => rfl); (case hr => first | (go_simp; done) | (go_simp; rfl))
       intro gb626 hg w69 hbox hb
       replace HO609 := rb_ HO609 hb
       replace HO614 := rb_ HO614 hb
       replace HO619 := rb_ HO619 hb
       replace HO622 := rb_ HO622 hb
       have BK626 := Aside0.mk hbox
       have GW626 := gg_ hg HB
       have GE626 := GW626
       replace HB := ss_ HB hb
       have NB601_626 := nla_ hg BK601
       have NB626_601 := nga_ hg BK601
       replace BK601 := kl_ BK601 hb
       have NB602_626 := nla_ hg BK602
       have NB626_602 := nga_ hg BK602
       replace BK602 := kl_ BK602 hb
       clear hb hbox hg
       refine hK.out _ _ ⟨bc0_ BK601.out, bc1_ BK601.out, bc2_ BK601.out, bc0_ BK602.out, bc1_ BK602.out⟩ (fun hHeld => ?_)
       clear hK K
       refine no_ 10 ?_
       exact nj_ (hJ1_3_5_7_8_12 (v608, v613, v618, v621, gb626) _ ⟨hHeld, (kr_ HO609.out), (kr_ HO614.out), (kr_ HO619.out), (kr_ HO622.out), (kb_ BK601.out), (kb_ BK602.out), (kb_ BK626.out), GW626.out, GE626.out, NB601_626.out, NB626_601.out, NB602_626.out, NB626_602.out, (bw_ HB)⟩)
     rintro ⟨v608, v613, v618, v621, gb626⟩ w69 ⟨hS_, h0_, h1_, h2_, h3_, h4_, h5_, h6_, h7_, h8_, h9_, h10_, h11_, h12_, h13_⟩
     have n0_ : Aside0 (Kd.R Kd.string 9 w69 w.heap.size (fun k_ => some k_ ≠ (v618 : Value).ownBlock ∧ some k_ ≠ (v621 : Value).ownBlock) v608 t607) := ⟨h0_⟩
     have n1_ : Aside0 (Kd.R k28 28 w69 w.heap.size (fun _ => True) v613 t612) := ⟨h1_⟩
     have n2_ : Aside0 (Kd.R Kd.string 9 w69 w.heap.size (fun k_ => some k_ ≠ (v608 : Value).ownBlock ∧ some k_ ≠ (v621 : Value).ownBlock) v618 t617) := ⟨h2_⟩
     have n3_ : Aside0 (Kd.R Kd.string 9 w69 w.heap.size (fun k_ => some k_ ≠ (v608 : Value).ownBlock ∧ some k_ ≠ (v618 : Value).ownBlock) v621 t620) := ⟨h3_⟩
     have n4_ : Aside0 (w69.heap[gb601]? = some (.cells #[.slice A0_0 l0_0.length c0_0, .int .i64 a0_1, .string a0_2] 49 (0, 0))) := ⟨h4_⟩
     have n5_ : Aside0 (w69.heap[gb602]? = some (.cells #[.int .i64 a2_0, .string a2_1] 47 (0, 0))) := ⟨h5_⟩
     have n6_ : Aside0 (w69.heap[gb626]? = some (.cells #[.slice none 0 0, .int .i64 0, .string (⟨#[]⟩ : ByteArray)] 31 (0, 0))) := ⟨h6_⟩
     have n7_ : Aside0 (w.heap.size ≤ gb626) := ⟨h7_⟩
     have n8_ : Aside0 (w.heap.size ≤ gb626) := ⟨h8_⟩
     have n9_ : Aside0 (gb601 ≠ gb626) := ⟨h9_⟩
     have n10_ : Aside0 (gb626 ≠ gb601) := ⟨h10_⟩
     have n11_ : Aside0 (gb602 ≠ gb626) := ⟨h11_⟩
     have n12_ : Aside0 (gb626 ≠ gb602) := ⟨h12_⟩
     have n13_ : Aside0 (Below w.heap.size w w69) := ⟨h13_⟩
     clear BK601
     clear BK602
     clear HB
     clear h0_ h1_ h2_ h3_ h4_ h5_ h6_ h7_ h8_ h9_ h10_ h11_ h12_ h13_
     have HO609 := n0_
     have HO614 := n1_
     have HO619 := n2_
     have HO622 := n3_
     have BK601 := n4_
     have BK602 := n5_
     have BK626 := n6_
     have GW626 := n7_
     have GE626 := n8_
     have NB601_626 := n9_
     have NB626_601 := n10_
     have NB602_626 := n11_
     have NB626_602 := n12_
     have HB := n13_
     clear n0_ n1_ n2_ n3_ n4_ n5_ n6_ n7_ n8_ n9_ n10_ n11_ n12_ n13_
     have hHeld : w69.cell? ⟨gb601, 0, none⟩ = some (.slice A0_0 l0_0.length c0_0) ∧ w69.cell? ⟨gb601, 1, none⟩ = some (.int .i64 a0_1) ∧ w69.cell? ⟨gb601, 2, none⟩ = some (.string a0_2) ∧ w69.cell? ⟨gb602, 0, none⟩ = some (.int .i64 a2_0) ∧ w69.cell? ⟨gb602, 1, none⟩ = some (.string a2_1) := hS_
     obtain ⟨Ao70, co70, eo70⟩ := Kd.R_slice HO622.out
     (first | subst eo70 | (injection eo70 with f1_ f2_ f3_; have f4_ := f1_.symm; have f5_ := f3_.symm; clear f1_ f2_ f3_; subst f4_; subst f5_))
     refine nj_ ?_
     refine one_ (i := 13) (N := none) (lz_ 15 16383) rfl rfl (one_of HT_.out (by kernel_rfl)) (by decide) (fun K hK => ?_)
     have hs71 := bc0_ BK626.out
     have hfs71 := blk_frozen BK626.out 0
     have hns71_0 := NB601_626.out
     have hns71_1 := NB602_626.out
     have hms71_0 := NB626_601.out
     have hms71_1 := NB626_602.out
     have hs72 := bc1_ BK626.out
     have hfs72 := blk_frozen BK626.out 1
     have hns72_0 := NB601_626.out
     have hns72_1 := NB602_626.out
     have hms72_0 := NB626_601.out
     have hms72_1 := NB626_602.out
     have hs73 := bc2_ BK626.out
     have hfs73 := blk_frozen BK626.out 2
     have hns73_0 := NB601_626.out
     have hns73_1 := NB602_626.out
     have hms73_0 := NB626_601.out
     have hms73_1 := NB626_602.out
     refine skip_ (w1 := ?_) (by rfl) rfl ?_ ?_
     rotate_left
     ·go_simp
      rfl
     refine hK.out _ _ ⟨((cell_far (p := ⟨gb626, _, none⟩) NB601_626.out _).trans (((cell_far (p := ⟨gb626, _, none⟩) NB601_626.out _).trans (((cell_far (p := ⟨gb626, _, none⟩) NB601_626.out _).trans (hHeld.1)))))), ((cell_far (p := ⟨gb626, _, none⟩) NB601_626.out _).trans (((cell_far (p := ⟨gb626, _, none⟩) NB601_626.out _).trans (((cell_far (p := ⟨gb626, _, none⟩) NB601_626.out _).trans (hHeld.2.1)))))), ((cell_far (p := ⟨gb626, _, none⟩) NB601_626.out _).trans (((cell_far (p := ⟨gb626, _, none⟩) NB601_626.out _).trans (((cell_far (p := ⟨gb626, _, none⟩) NB601_626.out _).trans (hHeld.2.2.1)))))), ((cell_far (p := ⟨gb626, _, none⟩) NB602_626.out _).trans (((cell_far (p := ⟨gb626, _, none⟩) NB602_626.out _).trans (((cell_far (p := ⟨gb626, _, none⟩) NB602_626.out _).trans (hHeld.2.2.2.1)))))), ((cell_far (p := ⟨gb626, _, none⟩) NB602_626.out _).trans (((cell_far (p := ⟨gb626, _, none⟩) NB602_626.out _).trans (((cell_far (p := ⟨gb626, _, none⟩) NB602_626.out _).trans (hHeld.2.2.2.2))))))⟩ (fun hHeld => ?_)
     clear hK K
     refine pt_ 14 11 32767 ?_
     refine done_ (done_of HT_.out (by kernel_rfl)) ?_
     have hnb74 := NB601_626.out
     have hnc74 := NB626_601.out
     have hz75 := cz3_ BK601
     try go_wp2_with (first | ((with_reducible refine gq_ 27 55 ?_); refine gc_ 55 Try.func27 (laws_toLog.calls k _ _ l0_0 a0_1 a0_2 t627 t630 t631 _ (Kd.C_below HR0_0.out (bw_ HB)) HC0_0.out A45.out) ?_; rintro e w76 ⟨v628, rfl, ho0, hb⟩; refine ⟨_, rfl, ?_⟩; replace HO614 := rbf_ HO614 BK626 hb; have HO629 := Aside0.mk (Kd.R_lower (Kd.R_new' (Kd.R_new' (Kd.R_new' ho0 (lf_ HO609 BK626)) (lf_ HO619 BK626)) (lf_ HO622 BK626)) (sz_ HB)); replace HO609 := ref_ HO609 BK626 ho0 hb; replace HO619 := ref_ HO619 BK626 ho0 hb; replace HO622 := ref_ HO622 BK626 ho0 hb; replace BK601 := kp_ BK601 hb; replace BK602 := kp_ BK602 hb; replace BK626 := kp_ BK626 hb; replace HB := ss_ HB hb; clear hb ho0) | ((with_reducible refine gd_ 12 ?_); refine bx_ 12 31 #[.slice none 0 0, .int .i64 0, .string (⟨#[]⟩ : ByteArray)] ?_; intro gb632 hg w77 hbox hb; replace HO609 := rb_ HO609 hb; replace HO614 := rb_ HO614 hb; replace HO619 := rb_ HO619 hb; replace HO622 := rb_ HO622 hb; replace HO629 := rb_ HO629 hb; have BK632 := Aside0.mk hbox; have GW632 := gg_ hg HB; have GE632 := GW632; replace HB := ss_ HB hb; have NB601_632 := nla_ hg BK601; have NB632_601 := nga_ hg BK601; replace BK601 := kl_ BK601 hb; have NB602_632 := nla_ hg BK602; have NB632_602 := nga_ hg BK602; replace BK602 := kl_ BK602 hb; have NB626_632 := nla_ hg BK626; have NB632_626 := nga_ hg BK626; replace BK626 := kl_ BK626 hb; clear hb hbox hg; obtain ⟨Ao78, co78, eo78⟩ := Kd.R_slice HO629.out; subst eo78; have hnb79 := NB632_601.out; have hnc79 := NB601_632.out; have hnb80 := NB632_602.out; have hnc80 := NB602_632.out; have hnb81 := NB632_626.out; have hnc81 := NB626_632.out; have hz82 := cz3_ BK632) | ((with_reducible refine gq_ 28 57 ?_); refine gc_ 57 Try.func28 (laws_toHeadS.calls k _ _ l1 t633 _ (Kd.C_below HR1.out (bw_ HB)) HC1.out A46.out) ?_; rintro e w83 ⟨v634, rfl, ho0, hb⟩; refine ⟨_, rfl, ?_⟩; replace HO609 := rbf_ HO609 BK632 hb; replace HO619 := rbf_ HO619 BK632 hb; replace HO622 := rbf_ HO622 BK632 hb; replace HO629 := rbf_ HO629 BK632 hb; have HO635 := Aside0.mk (Kd.R_lower (Kd.R_new' ho0 (lf_ HO614 BK632)) (sz_ HB)); replace HO614 := ref_ HO614 BK632 ho0 hb; replace BK601 := kp_ BK601 hb; replace BK602 := kp_ BK602 hb; replace BK626 := kp_ BK626 hb; replace BK632 := kp_ BK632 hb; replace HB := ss_ HB hb; clear hb ho0) | ((with_reducible refine gq_ 30 59 ?_); refine gc_ 59 Try.func30 (laws_toStringS.calls k _ _ l3 t636 _ (cb_ HR3 HB) HC3.out A47.out) ?_; rintro e w84 ⟨v637, rfl, ho0, hb⟩; refine ⟨_, rfl, ?_⟩; replace HO614 := rb_ HO614 hb; replace HO635 := rb_ HO635 hb; have HO638 := Aside0.mk (Kd.R_lower (Kd.R_new' (Kd.R_new' (Kd.R_new' (Kd.R_new' ho0 (lt_ HO609)) (lt_ HO619)) (lt_ HO622)) (lt_ HO629)) (sz_ HB)); replace HO609 := re_ HO609 ho0 hb; replace HO619 := re_ HO619 ho0 hb; replace HO622 := re_ HO622 ho0 hb; replace HO629 := re_ HO629 ho0 hb; replace BK601 := kl_ BK601 hb; replace BK602 := kl_ BK602 hb; replace BK626 := kl_ BK626 hb; replace BK632 := kl_ BK632 hb; replace HB := ss_ HB hb; clear hb ho0; obtain ⟨Ao85, co85, eo85⟩ := Kd.R_slice HO635.out; subst eo85; obtain ⟨Ao86, co86, eo86⟩ := Kd.R_slice HO638.out; subst eo86))
     replace HO609 := Aside0.mk (Kd.R_drew HO609.out)
     replace HO614 := Aside0.mk (Kd.R_drew HO614.out)
     replace HO619 := Aside0.mk (Kd.R_drew HO619.out)
     replace HO622 := Aside0.mk (Kd.R_drew HO622.out)
     replace HO629 := Aside0.mk (Kd.R_drew HO629.out)
     replace HO635 := Aside0.mk (Kd.R_drew HO635.out)
     replace HO638 := Aside0.mk (Kd.R_drew HO638.out)
     replace BK601 := Aside0.mk (blk_drew BK601.out)
     replace BK602 := Aside0.mk (blk_drew BK602.out)
     replace BK626 := Aside0.mk (blk_drew BK626.out)
     replace BK632 := Aside0.mk (blk_drew BK632.out)
     replace HB := Aside0.mk (below_drew1 HB.out)
     refine start_ (n := 12) (S := fun w' => w'.cell? ⟨gb632, 0, none⟩ = some (.slice Ao78 t627.length co78) ∧ w'.cell? ⟨gb632, 1, none⟩ = some (.int .i64 t630) ∧ w'.cell? ⟨gb632, 2, none⟩ = some (.string t631) ∧ w'.cell? ⟨gb602, 0, none⟩ = some (.int .i64 a2_0) ∧ w'.cell? ⟨gb602, 1, none⟩ = some (.string a2_1)) (ds := []) (lz_ 12 0) (by kernel_rfl) rfl rfl ⟨bc0_ BK632.out, bc1_ BK632.out, bc2_ BK632.out, bc0_ BK602.out, bc1_ BK602.out⟩ (fun hHeld => ?_); refine with_tabW laws_FnExactExtend.tab18 laws_FnExactExtend.bits18 (fun HT_ HW_ => ?_)
     generalize w84.drew = w87 at HO609 HO614 HO619 HO622 HO629 HO635 HO638 BK601 BK602 BK626 BK632 HB hHeld ⊢
     refine pt_ 1 62 2 ?_
     refine pt_ 4 65 18 ?_
     refine tt_ 0 61 19 ?_
     refine tt_ 2 63 23 ?_
     refine join_ (σ := Value × Nat) 2 (lz_ 12 1023) (fun s_ => [(64, .agg #[.int .i64 t639, .string t640]), (66, .tuple #[.agg #[s_.1, .int .i64 t644, .string t645], .int .i64 t646]), (15, .pointer (some ⟨s_.2, 0, none⟩)), (60, .tuple #[.agg #[s_.1, .int .i64 t644, .string t645], .int .i64 t646]), (67, .agg #[s_.1, .int .i64 t644, .string t645]), (68, .int .i64 t646)]) (fun s_ w' => (w'.cell? ⟨gb632, 0, none⟩ = some (.slice Ao78 t627.length co78) ∧ w'.cell? ⟨gb632, 1, none⟩ = some (.int .i64 t630) ∧ w'.cell? ⟨gb632, 2, none⟩ = some (.string t631) ∧ w'.cell? ⟨gb602, 0, none⟩ = some (.int .i64 a2_0) ∧ w'.cell? ⟨gb602, 1, none⟩ = some (.string a2_1)) ∧ (Kd.R Kd.string 9 w' w.heap.size (fun k_ => some k_ ≠ (v618 : Value).ownBlock ∧ some k_ ≠ (.slice Ao70 t620.length co70 : Value).ownBlock ∧ some k_ ≠ (.slice Ao78 t627.length co78 : Value).ownBlock ∧ some k_ ≠ (.slice Ao86 t636.length co86 : Value).ownBlock ∧ some k_ ≠ (s_.1 : Value).ownBlock) v608 t607) ∧ (Kd.R k28 28 w' w.heap.size (fun k_ => some k_ ≠ (.slice Ao85 t633.length co85 : Value).ownBlock) v613 t612) ∧ (Kd.R Kd.string 9 w' w.heap.size (fun k_ => some k_ ≠ (v608 : Value).ownBlock ∧ some k_ ≠ (.slice Ao70 t620.length co70 : Value).ownBlock ∧ some k_ ≠ (.slice Ao78 t627.length co78 : Value).ownBlock ∧ some k_ ≠ (.slice Ao86 t636.length co86 : Value).ownBlock ∧ some k_ ≠ (s_.1 : Value).ownBlock) v618 t617) ∧ (Kd.R Kd.string 9 w' w.heap.size (fun k_ => some k_ ≠ (v608 : Value).ownBlock ∧ some k_ ≠ (v618 : Value).ownBlock ∧ some k_ ≠ (.slice Ao78 t627.length co78 : Value).ownBlock ∧ some k_ ≠ (.slice Ao86 t636.length co86 : Value).ownBlock ∧ some k_ ≠ (s_.1 : Value).ownBlock) (.slice Ao70 t620.length co70) t620) ∧ (Kd.R Kd.string 9 w' w.heap.size (fun k_ => some k_ ≠ (v608 : Value).ownBlock ∧ some k_ ≠ (v618 : Value).ownBlock ∧ some k_ ≠ (.slice Ao70 t620.length co70 : Value).ownBlock ∧ some k_ ≠ (.slice Ao86 t636.length co86 : Value).ownBlock ∧ some k_ ≠ (s_.1 : Value).ownBlock) (.slice Ao78 t627.length co78) t627) ∧ (Kd.R k28 28 w' w.heap.size (fun k_ => some k_ ≠ (v613 : Value).ownBlock) (.slice Ao85 t633.length co85) t633) ∧ (Kd.R Kd.string 9 w' w.heap.size (fun k_ => some k_ ≠ (v608 : Value).ownBlock ∧ some k_ ≠ (v618 : Value).ownBlock ∧ some k_ ≠ (.slice Ao70 t620.length co70 : Value).ownBlock ∧ some k_ ≠ (.slice Ao78 t627.length co78 : Value).ownBlock ∧ some k_ ≠ (s_.1 : Value).ownBlock) (.slice Ao86 t636.length co86) t636) ∧ (Kd.R Kd.string 9 w' w.heap.size (fun k_ => some k_ ≠ (v608 : Value).ownBlock ∧ some k_ ≠ (v618 : Value).ownBlock ∧ some k_ ≠ (.slice Ao70 t620.length co70 : Value).ownBlock ∧ some k_ ≠ (.slice Ao78 t627.length co78 : Value).ownBlock ∧ some k_ ≠ (.slice Ao86 t636.length co86 : Value).ownBlock) s_.1 t641) ∧ (w'.heap[gb601]? = some (.cells #[.slice A0_0 l0_0.length c0_0, .int .i64 a0_1, .string a0_2] 49 (0, 0))) ∧ (w'.heap[gb602]? = some (.cells #[.int .i64 a2_0, .string a2_1] 47 (0, 0))) ∧ (w'.heap[gb626]? = some (.cells #[.slice Ao70 t620.length co70, .int .i64 t623, .string t624] 31 (0, 0))) ∧ (w'.heap[gb632]? = some (.cells #[.slice Ao78 t627.length co78, .int .i64 t630, .string t631] 31 (0, 0))) ∧ (w'.heap[s_.2]? = some (.cells #[.slice none 0 0, .int .i64 0, .string (⟨#[]⟩ : ByteArray)] 31 (0, 0))) ∧ (w.heap.size ≤ s_.2) ∧ (w.heap.size ≤ s_.2) ∧ (gb601 ≠ s_.2) ∧ (s_.2 ≠ gb601) ∧ (gb602 ≠ s_.2) ∧ (s_.2 ≠ gb602) ∧ (gb626 ≠ s_.2) ∧ (s_.2 ≠ gb626) ∧ (gb632 ≠ s_.2) ∧ (s_.2 ≠ gb632) ∧ (Below w.heap.size w w')) ?_ ?_
     rotate_left
     ·intro hCont
      refine two_ (i := 3) (j := 9) (Ni := some 64) (Nj := some 15) (lz_ 12 31) (lz_ 12 535) rfl rfl rfl rfl (two_of HT_.out (by kernel_rfl)) (by decide) (by decide) (fun K hK => ?_) (fun K hK => ?_)
      ·skip
       refine gf_ Try.func29 (laws_toHead.calls a2_0 a2_1 t639 t640 _ A48.out) ?_
       rintro e w88 ⟨rfl, hb⟩
       refine ⟨_, rfl, ?_⟩
       replace HO609 := rb_ HO609 hb
       replace HO614 := rb_ HO614 hb
       replace HO619 := rb_ HO619 hb
       replace HO622 := rb_ HO622 hb
       replace HO629 := rb_ HO629 hb
       replace HO635 := rb_ HO635 hb
       replace HO638 := rb_ HO638 hb
       replace BK601 := kl_ BK601 hb
       replace BK602 := kl_ BK602 hb
       replace BK626 := kl_ BK626 hb
       replace BK632 := kl_ BK632 hb
       replace HB := ss_ HB hb
       clear hb
       refine hK.out _ _ ⟨bc0_ BK632.out, bc1_ BK632.out, bc2_ BK632.out, bc0_ BK602.out, bc1_ BK602.out⟩ (fun hHeld => ?_)
       clear hK K
       refine no_ 64 ?_
       refine two_ (i := 5) (j := 9) (Ni := some 66) (Nj := some 15) (lz_ 12 63) (lz_ 12 543) rfl rfl rfl rfl (two_of HT_.out (by kernel_rfl)) (by decide) (by decide) (fun K hK => ?_) (fun K hK => ?_)
       ·skip
        refine gf_ Try.func13 (impl_Extend.calls k _ _ t627 t630 t631 _ _ t633 t639 t640 _ _ t636 t641 t644 t645 t646 _ (ch_ HO629) (cl_ HO629) (ch_ HO635) (cl_ HO635) (ch_ HO638) (cl_ HO638) A49.out) ?_
        rintro e w89 ⟨v642, rfl, ho0, hb⟩
        refine ⟨_, rfl, ?_⟩
        replace HO614 := rb_ HO614 hb
        replace HO635 := rb_ HO635 hb
        have HO643 := Aside0.mk (Kd.R_lower (Kd.R_new' (Kd.R_new' (Kd.R_new' (Kd.R_new' (Kd.R_new' ho0 (lt_ HO609)) (lt_ HO619)) (lt_ HO622)) (lt_ HO629)) (lt_ HO638)) (sz_ HB))
        replace HO609 := re_ HO609 ho0 hb
        replace HO619 := re_ HO619 ho0 hb
        replace HO622 := re_ HO622 ho0 hb
        replace HO629 := re_ HO629 ho0 hb
        replace HO638 := re_ HO638 ho0 hb
        replace BK601 := kl_ BK601 hb
        replace BK602 := kl_ BK602 hb
        replace BK626 := kl_ BK626 hb
        replace BK632 := kl_ BK632 hb
        replace HB := ss_ HB hb
        clear hb ho0
        refine hK.out _ _ ⟨bc0_ BK632.out, bc1_ BK632.out, bc2_ BK632.out, bc0_ BK602.out, bc1_ BK602.out⟩ (fun hHeld => ?_)
        clear hK K
        refine no_ 66 ?_
        refine pt_ 6 60 127 ?_
        refine pt_ 7 67 255 ?_
        refine pt_ 8 68 511 ?_
        refine one_ (i := 9) (N := some 15) (lz_ 12 1023) rfl rfl (one_of HT_.out (by kernel_rfl)) (by decide) (fun K hK => ?_)
        refine box_step ?hg (N := 15) ?hd (cs := #[.slice none 0 0, .int .i64 0, .string (⟨#[]⟩ : ByteArray)]) (t := 31) ?hr ?_; (case hd => rfl); (case hg => rfl); (case hr => first | (go_simp; done) | (go_simp; rfl))
        intro gb647 hg w90 hbox hb
        replace HO609 := rb_ HO609 hb
        replace HO614 := rb_ HO614 hb
        replace HO619 := rb_ HO619 hb
        replace HO622 := rb_ HO622 hb
        replace HO629 := rb_ HO629 hb
        replace HO635 := rb_ HO635 hb
        replace HO638 := rb_ HO638 hb
        replace HO643 := rb_ HO643 hb
        have BK647 := Aside0.mk hbox
        have GW647 := gg_ hg HB
        have GE647 := GW647
        replace HB := ss_ HB hb
        have NB601_647 := nla_ hg BK601
        have NB647_601 := nga_ hg BK601
        replace BK601 := kl_ BK601 hb
        have NB602_647 := nla_ hg BK602
        have NB647_602 := nga_ hg BK602
        replace BK602 := kl_ BK602 hb
        have NB626_647 := nla_ hg BK626
        have NB647_626 := nga_ hg BK626
        replace BK626 := kl_ BK626 hb
        have NB632_647 := nla_ hg BK632
        have NB647_632 := nga_ hg BK632
        replace BK632 := kl_ BK632 hb
        clear hb hbox hg
        refine hK.out _ _ ⟨bc0_ BK632.out, bc1_ BK632.out, bc2_ BK632.out, bc0_ BK602.out, bc1_ BK602.out⟩ (fun hHeld => ?_)
        clear hK K
        refine no_ 15 ?_
        exact norm_ (by simp only [putAll, Act.put, List.setIfInBounds_toArray, List.set_cons_zero, List.set_cons_succ]) (hCont (v642, gb647) _ ⟨hHeld, (kr_ (Kd.R_mono HO609.out (fun _ hk => ⟨hk.1.1.1.1, ⟨hk.1.1.1.2, ⟨hk.1.1.2, ⟨hk.1.2, hk.2⟩⟩⟩⟩))), (kr_ (Kd.R_mono HO614.out (fun _ hk => hk.2))), (kr_ (Kd.R_mono HO619.out (fun _ hk => ⟨hk.1.1.1.1, ⟨hk.1.1.1.2, ⟨hk.1.1.2, ⟨hk.1.2, hk.2⟩⟩⟩⟩))), (kr_ (Kd.R_mono HO622.out (fun _ hk => ⟨hk.1.1.1.1, ⟨hk.1.1.1.2, ⟨hk.1.1.2, ⟨hk.1.2, hk.2⟩⟩⟩⟩))), (kr_ (Kd.R_mono HO629.out (fun _ hk => ⟨hk.1.1.1.1.2, ⟨hk.1.1.1.2, ⟨hk.1.1.2, ⟨hk.1.2, hk.2⟩⟩⟩⟩))), (kr_ (Kd.R_mono HO635.out (fun _ hk => hk.2))), (kr_ (Kd.R_mono HO638.out (fun _ hk => ⟨hk.1.1.1.1.2, ⟨hk.1.1.1.2, ⟨hk.1.1.2, ⟨hk.1.2, hk.2⟩⟩⟩⟩))), (kr_ (Kd.R_mono HO643.out (fun _ hk => ⟨hk.1.1.1.1.2, ⟨hk.1.1.1.2, ⟨hk.1.1.2, ⟨hk.1.2, hk.2⟩⟩⟩⟩))), (kb_ BK601.out), (kb_ BK602.out), (kb_ BK626.out), (kb_ BK632.out), (kb_ BK647.out), GW647.out, GE647.out, NB601_647.out, NB647_601.out, NB602_647.out, NB647_602.out, NB626_647.out, NB647_626.out, NB632_647.out, NB647_632.out, (bw_ HB)⟩)
       ·skip
        refine box_step ?hg (N := 15) ?hd (cs := #[.slice none 0 0, .int .i64 0, .string (⟨#[]⟩ : ByteArray)]) (t := 31) ?hr ?_; (case hd => rfl); (case hg => rfl); (case hr => first | (go_simp; done) | (go_simp; rfl))
        intro gb647 hg w89 hbox hb
        replace HO609 := rb_ HO609 hb
        replace HO614 := rb_ HO614 hb
        replace HO619 := rb_ HO619 hb
        replace HO622 := rb_ HO622 hb
        replace HO629 := rb_ HO629 hb
        replace HO635 := rb_ HO635 hb
        replace HO638 := rb_ HO638 hb
        have BK647 := Aside0.mk hbox
        have GW647 := gg_ hg HB
        have GE647 := GW647
        replace HB := ss_ HB hb
        have NB601_647 := nla_ hg BK601
        have NB647_601 := nga_ hg BK601
        replace BK601 := kl_ BK601 hb
        have NB602_647 := nla_ hg BK602
        have NB647_602 := nga_ hg BK602
        replace BK602 := kl_ BK602 hb
        have NB626_647 := nla_ hg BK626
        have NB647_626 := nga_ hg BK626
        replace BK626 := kl_ BK626 hb
        have NB632_647 := nla_ hg BK632
        have NB647_632 := nga_ hg BK632
        replace BK632 := kl_ BK632 hb
        clear hb hbox hg
        refine hK.out _ _ ⟨bc0_ BK632.out, bc1_ BK632.out, bc2_ BK632.out, bc0_ BK602.out, bc1_ BK602.out⟩ (fun hHeld => ?_)
        clear hK K
        refine no_ 15 ?_
        refine one_ (i := 5) (N := some 66) (lz_ 12 575) rfl rfl (one_of HT_.out (by kernel_rfl)) (by decide) (fun K hK => ?_)
        refine gf_ Try.func13 (impl_Extend.calls k _ _ t627 t630 t631 _ _ t633 t639 t640 _ _ t636 t641 t644 t645 t646 _ (ch_ HO629) (cl_ HO629) (ch_ HO635) (cl_ HO635) (ch_ HO638) (cl_ HO638) A49.out) ?_
        rintro e w90 ⟨v642, rfl, ho0, hb⟩
        refine ⟨_, rfl, ?_⟩
        replace HO614 := rb_ HO614 hb
        replace HO635 := rb_ HO635 hb
        have HO643 := Aside0.mk (Kd.R_lower (Kd.R_new' (Kd.R_new' (Kd.R_new' (Kd.R_new' (Kd.R_new' ho0 (lt_ HO609)) (lt_ HO619)) (lt_ HO622)) (lt_ HO629)) (lt_ HO638)) (sz_ HB))
        replace HO609 := re_ HO609 ho0 hb
        replace HO619 := re_ HO619 ho0 hb
        replace HO622 := re_ HO622 ho0 hb
        replace HO629 := re_ HO629 ho0 hb
        replace HO638 := re_ HO638 ho0 hb
        replace BK601 := kl_ BK601 hb
        replace BK602 := kl_ BK602 hb
        replace BK626 := kl_ BK626 hb
        replace BK632 := kl_ BK632 hb
        replace BK647 := kl_ BK647 hb
        replace HB := ss_ HB hb
        clear hb ho0
        refine hK.out _ _ ⟨bc0_ BK632.out, bc1_ BK632.out, bc2_ BK632.out, bc0_ BK602.out, bc1_ BK602.out⟩ (fun hHeld => ?_)
        clear hK K
        refine no_ 66 ?_
        refine pt_ 6 60 639 ?_
        refine pt_ 7 67 767 ?_
        refine pt_ 8 68 1023 ?_
        exact norm_ (by simp only [putAll, Act.put, List.setIfInBounds_toArray, List.set_cons_zero, List.set_cons_succ]) (hCont (v642, gb647) _ ⟨hHeld, (kr_ (Kd.R_mono HO609.out (fun _ hk => ⟨hk.1.1.1.1, ⟨hk.1.1.1.2, ⟨hk.1.1.2, ⟨hk.1.2, hk.2⟩⟩⟩⟩))), (kr_ (Kd.R_mono HO614.out (fun _ hk => hk.2))), (kr_ (Kd.R_mono HO619.out (fun _ hk => ⟨hk.1.1.1.1, ⟨hk.1.1.1.2, ⟨hk.1.1.2, ⟨hk.1.2, hk.2⟩⟩⟩⟩))), (kr_ (Kd.R_mono HO622.out (fun _ hk => ⟨hk.1.1.1.1, ⟨hk.1.1.1.2, ⟨hk.1.1.2, ⟨hk.1.2, hk.2⟩⟩⟩⟩))), (kr_ (Kd.R_mono HO629.out (fun _ hk => ⟨hk.1.1.1.1.2, ⟨hk.1.1.1.2, ⟨hk.1.1.2, ⟨hk.1.2, hk.2⟩⟩⟩⟩))), (kr_ (Kd.R_mono HO635.out (fun _ hk => hk.2))), (kr_ (Kd.R_mono HO638.out (fun _ hk => ⟨hk.1.1.1.1.2, ⟨hk.1.1.1.2, ⟨hk.1.1.2, ⟨hk.1.2, hk.2⟩⟩⟩⟩))), (kr_ (Kd.R_mono HO643.out (fun _ hk => ⟨hk.1.1.1.1.2, ⟨hk.1.1.1.2, ⟨hk.1.1.2, ⟨hk.1.2, hk.2⟩⟩⟩⟩))), (kb_ BK601.out), (kb_ BK602.out), (kb_ BK626.out), (kb_ BK632.out), (kb_ BK647.out), GW647.out, GE647.out, NB601_647.out, NB647_601.out, NB602_647.out, NB647_602.out, NB626_647.out, NB647_626.out, NB632_647.out, NB647_632.out, (bw_ HB)⟩)
      ·skip
       refine box_step ?hg (N := 15) ?hd (cs := #[.slice none 0 0, .int .i64 0, .string (⟨#[]⟩ : ByteArray)]) (t := 31) ?hr ?_; (case hd => rfl); (case hg => rfl); (case hr => first | (go_simp; done) | (go_simp; rfl))
       intro gb647 hg w88 hbox hb
       replace HO609 := rb_ HO609 hb
       replace HO614 := rb_ HO614 hb
       replace HO619 := rb_ HO619 hb
       replace HO622 := rb_ HO622 hb
       replace HO629 := rb_ HO629 hb
       replace HO635 := rb_ HO635 hb
       replace HO638 := rb_ HO638 hb
       have BK647 := Aside0.mk hbox
       have GW647 := gg_ hg HB
       have GE647 := GW647
       replace HB := ss_ HB hb
       have NB601_647 := nla_ hg BK601
       have NB647_601 := nga_ hg BK601
       replace BK601 := kl_ BK601 hb
       have NB602_647 := nla_ hg BK602
       have NB647_602 := nga_ hg BK602
       replace BK602 := kl_ BK602 hb
       have NB626_647 := nla_ hg BK626
       have NB647_626 := nga_ hg BK626
       replace BK626 := kl_ BK626 hb
       have NB632_647 := nla_ hg BK632
       have NB647_632 := nga_ hg BK632
       replace BK632 := kl_ BK632 hb
       clear hb hbox hg
       refine hK.out _ _ ⟨bc0_ BK632.out, bc1_ BK632.out, bc2_ BK632.out, bc0_ BK602.out, bc1_ BK602.out⟩ (fun hHeld => ?_)
       clear hK K
       refine no_ 15 ?_
       refine one_ (i := 3) (N := some 64) (lz_ 12 543) rfl rfl (one_of HT_.out (by kernel_rfl)) (by decide) (fun K hK => ?_)
       refine gf_ Try.func29 (laws_toHead.calls a2_0 a2_1 t639 t640 _ A48.out) ?_
       rintro e w89 ⟨rfl, hb⟩
       refine ⟨_, rfl, ?_⟩
       replace HO609 := rb_ HO609 hb
       replace HO614 := rb_ HO614 hb
       replace HO619 := rb_ HO619 hb
       replace HO622 := rb_ HO622 hb
       replace HO629 := rb_ HO629 hb
       replace HO635 := rb_ HO635 hb
       replace HO638 := rb_ HO638 hb
       replace BK601 := kl_ BK601 hb
       replace BK602 := kl_ BK602 hb
       replace BK626 := kl_ BK626 hb
       replace BK632 := kl_ BK632 hb
       replace BK647 := kl_ BK647 hb
       replace HB := ss_ HB hb
       clear hb
       refine hK.out _ _ ⟨bc0_ BK632.out, bc1_ BK632.out, bc2_ BK632.out, bc0_ BK602.out, bc1_ BK602.out⟩ (fun hHeld => ?_)
       clear hK K
       refine no_ 64 ?_
       refine one_ (i := 5) (N := some 66) (lz_ 12 575) rfl rfl (one_of HT_.out (by kernel_rfl)) (by decide) (fun K hK => ?_)
       refine gf_ Try.func13 (impl_Extend.calls k _ _ t627 t630 t631 _ _ t633 t639 t640 _ _ t636 t641 t644 t645 t646 _ (ch_ HO629) (cl_ HO629) (ch_ HO635) (cl_ HO635) (ch_ HO638) (cl_ HO638) A49.out) ?_
       rintro e w90 ⟨v642, rfl, ho0, hb⟩
       refine ⟨_, rfl, ?_⟩
       replace HO614 := rb_ HO614 hb
       replace HO635 := rb_ HO635 hb
       have HO643 := Aside0.mk (Kd.R_lower (Kd.R_new' (Kd.R_new' (Kd.R_new' (Kd.R_new' (Kd.R_new' ho0 (lt_ HO609)) (lt_ HO619)) (lt_ HO622)) (lt_ HO629)) (lt_ HO638)) (sz_ HB))
       replace HO609 := re_ HO609 ho0 hb
       replace HO619 := re_ HO619 ho0 hb
       replace HO622 := re_ HO622 ho0 hb
       replace HO629 := re_ HO629 ho0 hb
       replace HO638 := re_ HO638 ho0 hb
       replace BK601 := kl_ BK601 hb
       replace BK602 := kl_ BK602 hb
       replace BK626 := kl_ BK626 hb
       replace BK632 := kl_ BK632 hb
       replace BK647 := kl_ BK647 hb
       replace HB := ss_ HB hb
       clear hb ho0
       refine hK.out _ _ ⟨bc0_ BK632.out, bc1_ BK632.out, bc2_ BK632.out, bc0_ BK602.out, bc1_ BK602.out⟩ (fun hHeld => ?_)
       clear hK K
       refine no_ 66 ?_
       refine pt_ 6 60 639 ?_
       refine pt_ 7 67 767 ?_
       refine pt_ 8 68 1023 ?_
       exact norm_ (by simp only [putAll, Act.put, List.setIfInBounds_toArray, List.set_cons_zero, List.set_cons_succ]) (hCont (v642, gb647) _ ⟨hHeld, (kr_ (Kd.R_mono HO609.out (fun _ hk => ⟨hk.1.1.1.1, ⟨hk.1.1.1.2, ⟨hk.1.1.2, ⟨hk.1.2, hk.2⟩⟩⟩⟩))), (kr_ (Kd.R_mono HO614.out (fun _ hk => hk.2))), (kr_ (Kd.R_mono HO619.out (fun _ hk => ⟨hk.1.1.1.1, ⟨hk.1.1.1.2, ⟨hk.1.1.2, ⟨hk.1.2, hk.2⟩⟩⟩⟩))), (kr_ (Kd.R_mono HO622.out (fun _ hk => ⟨hk.1.1.1.1, ⟨hk.1.1.1.2, ⟨hk.1.1.2, ⟨hk.1.2, hk.2⟩⟩⟩⟩))), (kr_ (Kd.R_mono HO629.out (fun _ hk => ⟨hk.1.1.1.1.2, ⟨hk.1.1.1.2, ⟨hk.1.1.2, ⟨hk.1.2, hk.2⟩⟩⟩⟩))), (kr_ (Kd.R_mono HO635.out (fun _ hk => hk.2))), (kr_ (Kd.R_mono HO638.out (fun _ hk => ⟨hk.1.1.1.1.2, ⟨hk.1.1.1.2, ⟨hk.1.1.2, ⟨hk.1.2, hk.2⟩⟩⟩⟩))), (kr_ (Kd.R_mono HO643.out (fun _ hk => ⟨hk.1.1.1.1.2, ⟨hk.1.1.1.2, ⟨hk.1.1.2, ⟨hk.1.2, hk.2⟩⟩⟩⟩))), (kb_ BK601.out), (kb_ BK602.out), (kb_ BK626.out), (kb_ BK632.out), (kb_ BK647.out), GW647.out, GE647.out, NB601_647.out, NB647_601.out, NB602_647.out, NB647_602.out, NB626_647.out, NB647_626.out, NB632_647.out, NB647_632.out, (bw_ HB)⟩)
     rintro ⟨v642, gb647⟩ w91 ⟨hS_, h0_, h1_, h2_, h3_, h4_, h5_, h6_, h7_, h8_, h9_, h10_, h11_, h12_, h13_, h14_, h15_, h16_, h17_, h18_, h19_, h20_, h21_, h22_, h23_⟩
     have n0_ : Aside0 (Kd.R Kd.string 9 w91 w.heap.size (fun k_ => some k_ ≠ (v618 : Value).ownBlock ∧ some k_ ≠ (.slice Ao70 t620.length co70 : Value).ownBlock ∧ some k_ ≠ (.slice Ao78 t627.length co78 : Value).ownBlock ∧ some k_ ≠ (.slice Ao86 t636.length co86 : Value).ownBlock ∧ some k_ ≠ (v642 : Value).ownBlock) v608 t607) := ⟨h0_⟩
     have n1_ : Aside0 (Kd.R k28 28 w91 w.heap.size (fun k_ => some k_ ≠ (.slice Ao85 t633.length co85 : Value).ownBlock) v613 t612) := ⟨h1_⟩
     have n2_ : Aside0 (Kd.R Kd.string 9 w91 w.heap.size (fun k_ => some k_ ≠ (v608 : Value).ownBlock ∧ some k_ ≠ (.slice Ao70 t620.length co70 : Value).ownBlock ∧ some k_ ≠ (.slice Ao78 t627.length co78 : Value).ownBlock ∧ some k_ ≠ (.slice Ao86 t636.length co86 : Value).ownBlock ∧ some k_ ≠ (v642 : Value).ownBlock) v618 t617) := ⟨h2_⟩
     have n3_ : Aside0 (Kd.R Kd.string 9 w91 w.heap.size (fun k_ => some k_ ≠ (v608 : Value).ownBlock ∧ some k_ ≠ (v618 : Value).ownBlock ∧ some k_ ≠ (.slice Ao78 t627.length co78 : Value).ownBlock ∧ some k_ ≠ (.slice Ao86 t636.length co86 : Value).ownBlock ∧ some k_ ≠ (v642 : Value).ownBlock) (.slice Ao70 t620.length co70) t620) := ⟨h3_⟩
     have n4_ : Aside0 (Kd.R Kd.string 9 w91 w.heap.size (fun k_ => some k_ ≠ (v608 : Value).ownBlock ∧ some k_ ≠ (v618 : Value).ownBlock ∧ some k_ ≠ (.slice Ao70 t620.length co70 : Value).ownBlock ∧ some k_ ≠ (.slice Ao86 t636.length co86 : Value).ownBlock ∧ some k_ ≠ (v642 : Value).ownBlock) (.slice Ao78 t627.length co78) t627) := ⟨h4_⟩
     have n5_ : Aside0 (Kd.R k28 28 w91 w.heap.size (fun k_ => some k_ ≠ (v613 : Value).ownBlock) (.slice Ao85 t633.length co85) t633) := ⟨h5_⟩
     have n6_ : Aside0 (Kd.R Kd.string 9 w91 w.heap.size (fun k_ => some k_ ≠ (v608 : Value).ownBlock ∧ some k_ ≠ (v618 : Value).ownBlock ∧ some k_ ≠ (.slice Ao70 t620.length co70 : Value).ownBlock ∧ some k_ ≠ (.slice Ao78 t627.length co78 : Value).ownBlock ∧ some k_ ≠ (v642 : Value).ownBlock) (.slice Ao86 t636.length co86) t636) := ⟨h6_⟩
     have n7_ : Aside0 (Kd.R Kd.string 9 w91 w.heap.size (fun k_ => some k_ ≠ (v608 : Value).ownBlock ∧ some k_ ≠ (v618 : Value).ownBlock ∧ some k_ ≠ (.slice Ao70 t620.length co70 : Value).ownBlock ∧ some k_ ≠ (.slice Ao78 t627.length co78 : Value).ownBlock ∧ some k_ ≠ (.slice Ao86 t636.length co86 : Value).ownBlock) v642 t641) := ⟨h7_⟩
     have n8_ : Aside0 (w91.heap[gb601]? = some (.cells #[.slice A0_0 l0_0.length c0_0, .int .i64 a0_1, .string a0_2] 49 (0, 0))) := ⟨h8_⟩
     have n9_ : Aside0 (w91.heap[gb602]? = some (.cells #[.int .i64 a2_0, .string a2_1] 47 (0, 0))) := ⟨h9_⟩
     have n10_ : Aside0 (w91.heap[gb626]? = some (.cells #[.slice Ao70 t620.length co70, .int .i64 t623, .string t624] 31 (0, 0))) := ⟨h10_⟩
     have n11_ : Aside0 (w91.heap[gb632]? = some (.cells #[.slice Ao78 t627.length co78, .int .i64 t630, .string t631] 31 (0, 0))) := ⟨h11_⟩
     have n12_ : Aside0 (w91.heap[gb647]? = some (.cells #[.slice none 0 0, .int .i64 0, .string (⟨#[]⟩ : ByteArray)] 31 (0, 0))) := ⟨h12_⟩
     have n13_ : Aside0 (w.heap.size ≤ gb647) := ⟨h13_⟩
     have n14_ : Aside0 (w.heap.size ≤ gb647) := ⟨h14_⟩
     have n15_ : Aside0 (gb601 ≠ gb647) := ⟨h15_⟩
     have n16_ : Aside0 (gb647 ≠ gb601) := ⟨h16_⟩
     have n17_ : Aside0 (gb602 ≠ gb647) := ⟨h17_⟩
     have n18_ : Aside0 (gb647 ≠ gb602) := ⟨h18_⟩
     have n19_ : Aside0 (gb626 ≠ gb647) := ⟨h19_⟩
     have n20_ : Aside0 (gb647 ≠ gb626) := ⟨h20_⟩
     have n21_ : Aside0 (gb632 ≠ gb647) := ⟨h21_⟩
     have n22_ : Aside0 (gb647 ≠ gb632) := ⟨h22_⟩
     have n23_ : Aside0 (Below w.heap.size w w91) := ⟨h23_⟩
     clear HO609
     clear HO614
     clear HO619
     clear HO622
     clear HO629
     clear HO635
     clear HO638
     clear BK601
     clear BK602
     clear BK626
     clear BK632
     clear HB
     clear h0_ h1_ h2_ h3_ h4_ h5_ h6_ h7_ h8_ h9_ h10_ h11_ h12_ h13_ h14_ h15_ h16_ h17_ h18_ h19_ h20_ h21_ h22_ h23_
     have HO609 := n0_
     have HO614 := n1_
     have HO619 := n2_
     have HO622 := n3_
     have HO629 := n4_
     have HO635 := n5_
     have HO638 := n6_
     have HO643 := n7_
     have BK601 := n8_
     have BK602 := n9_
     have BK626 := n10_
     have BK632 := n11_
     have BK647 := n12_
     have GW647 := n13_
     have GE647 := n14_
     have NB601_647 := n15_
     have NB647_601 := n16_
     have NB602_647 := n17_
     have NB647_602 := n18_
     have NB626_647 := n19_
     have NB647_626 := n20_
     have NB632_647 := n21_
     have NB647_632 := n22_
     have HB := n23_
     clear n0_ n1_ n2_ n3_ n4_ n5_ n6_ n7_ n8_ n9_ n10_ n11_ n12_ n13_ n14_ n15_ n16_ n17_ n18_ n19_ n20_ n21_ n22_ n23_
     have hHeld : w91.cell? ⟨gb632, 0, none⟩ = some (.slice Ao78 t627.length co78) ∧ w91.cell? ⟨gb632, 1, none⟩ = some (.int .i64 t630) ∧ w91.cell? ⟨gb632, 2, none⟩ = some (.string t631) ∧ w91.cell? ⟨gb602, 0, none⟩ = some (.int .i64 a2_0) ∧ w91.cell? ⟨gb602, 1, none⟩ = some (.string a2_1) := hS_
     obtain ⟨Ao92, co92, eo92⟩ := Kd.R_slice HO643.out
     (first | subst eo92 | (injection eo92 with f1_ f2_ f3_; have f4_ := f1_.symm; have f5_ := f3_.symm; clear f1_ f2_ f3_; subst f4_; subst f5_))
     refine nj_ ?_
     refine one_ (i := 10) (N := none) (lz_ 12 2047) rfl rfl (one_of HT_.out (by kernel_rfl)) (by decide) (fun K hK => ?_)
     have hs93 := bc0_ BK647.out
     have hfs93 := blk_frozen BK647.out 0
     have hns93_0 := NB601_647.out
     have hns93_1 := NB602_647.out
     have hns93_2 := NB626_647.out
     have hns93_3 := NB632_647.out
     have hms93_0 := NB647_601.out
     have hms93_1 := NB647_602.out
     have hms93_2 := NB647_626.out
     have hms93_3 := NB647_632.out
     have hs94 := bc1_ BK647.out
     have hfs94 := blk_frozen BK647.out 1
     have hns94_0 := NB601_647.out
     have hns94_1 := NB602_647.out
     have hns94_2 := NB626_647.out
     have hns94_3 := NB632_647.out
     have hms94_0 := NB647_601.out
     have hms94_1 := NB647_602.out
     have hms94_2 := NB647_626.out
     have hms94_3 := NB647_632.out
     have hs95 := bc2_ BK647.out
     have hfs95 := blk_frozen BK647.out 2
     have hns95_0 := NB601_647.out
     have hns95_1 := NB602_647.out
     have hns95_2 := NB626_647.out
     have hns95_3 := NB632_647.out
     have hms95_0 := NB647_601.out
     have hms95_1 := NB647_602.out
     have hms95_2 := NB647_626.out
     have hms95_3 := NB647_632.out
     refine skip_ (w1 := ?_) (by rfl) rfl ?_ ?_
     rotate_left
     ·go_simp
      rfl
     refine hK.out _ _ ⟨((cell_far (p := ⟨gb647, _, none⟩) NB632_647.out _).trans (((cell_far (p := ⟨gb647, _, none⟩) NB632_647.out _).trans (((cell_far (p := ⟨gb647, _, none⟩) NB632_647.out _).trans (hHeld.1)))))), ((cell_far (p := ⟨gb647, _, none⟩) NB632_647.out _).trans (((cell_far (p := ⟨gb647, _, none⟩) NB632_647.out _).trans (((cell_far (p := ⟨gb647, _, none⟩) NB632_647.out _).trans (hHeld.2.1)))))), ((cell_far (p := ⟨gb647, _, none⟩) NB632_647.out _).trans (((cell_far (p := ⟨gb647, _, none⟩) NB632_647.out _).trans (((cell_far (p := ⟨gb647, _, none⟩) NB632_647.out _).trans (hHeld.2.2.1)))))), ((cell_far (p := ⟨gb647, _, none⟩) NB602_647.out _).trans (((cell_far (p := ⟨gb647, _, none⟩) NB602_647.out _).trans (((cell_far (p := ⟨gb647, _, none⟩) NB602_647.out _).trans (hHeld.2.2.2.1)))))), ((cell_far (p := ⟨gb647, _, none⟩) NB602_647.out _).trans (((cell_far (p := ⟨gb647, _, none⟩) NB602_647.out _).trans (((cell_far (p := ⟨gb647, _, none⟩) NB602_647.out _).trans (hHeld.2.2.2.2))))))⟩ (fun hHeld => ?_)
     clear hK K
     refine pt_ 11 16 4095 ?_
     refine done_ (done_of HT_.out (by kernel_rfl)) ?_
     go_upto_region 19 with (fail)
     go_cut [77] (fun v77 wc => ∃ (kq : Nat) (x77_49 : Bool), v77 = .bool x77_49 ∧ Aside0 (laws_FnExactExtend.j0 kq l1 l3 t625 t633 t636 t646 x77_49 l0_0 a0_1 a0_2 a2_0 a2_1 t620 t623 t624 t627 t630 t631 t641 t644 t645 = some r) ∧ Aside0 (kq ≤ k) ∧ Aside0 (Kd.R k28 28 wc w.heap.size (fun _ => True) (.slice Ao85 t633.length co85) t633) ∧ Aside0 (Kd.R Kd.string 9 wc w.heap.size (fun k_ => some k_ ≠ ((.slice Ao70 t620.length co70) : Value).ownBlock ∧ some k_ ≠ ((.slice Ao78 t627.length co78) : Value).ownBlock ∧ some k_ ≠ ((.slice Ao92 t641.length co92) : Value).ownBlock) (.slice Ao86 t636.length co86) t636) ∧ Aside0 (Kd.R Kd.string 9 wc w.heap.size (fun k_ => some k_ ≠ ((.slice Ao86 t636.length co86) : Value).ownBlock ∧ some k_ ≠ ((.slice Ao78 t627.length co78) : Value).ownBlock ∧ some k_ ≠ ((.slice Ao92 t641.length co92) : Value).ownBlock) (.slice Ao70 t620.length co70) t620) ∧ Aside0 (Kd.R Kd.string 9 wc w.heap.size (fun k_ => some k_ ≠ ((.slice Ao86 t636.length co86) : Value).ownBlock ∧ some k_ ≠ ((.slice Ao70 t620.length co70) : Value).ownBlock ∧ some k_ ≠ ((.slice Ao92 t641.length co92) : Value).ownBlock) (.slice Ao78 t627.length co78) t627) ∧ Aside0 (Kd.R Kd.string 9 wc w.heap.size (fun k_ => some k_ ≠ ((.slice Ao86 t636.length co86) : Value).ownBlock ∧ some k_ ≠ ((.slice Ao70 t620.length co70) : Value).ownBlock ∧ some k_ ≠ ((.slice Ao78 t627.length co78) : Value).ownBlock) (.slice Ao92 t641.length co92) t641) ∧ Aside0 (wc.heap[gb601]? = some (.cells #[(.slice A0_0 l0_0.length c0_0), .int .i64 a0_1, .string a0_2] 49 (0, 0))) ∧ Aside0 (wc.heap[gb602]? = some (.cells #[.int .i64 a2_0, .string a2_1] 47 (0, 0))) ∧ Aside0 (wc.heap[gb626]? = some (.cells #[(.slice Ao70 t620.length co70), .int .i64 t623, .string t624] 31 (0, 0))) ∧ Aside0 (wc.heap[gb632]? = some (.cells #[(.slice Ao78 t627.length co78), .int .i64 t630, .string t631] 31 (0, 0))) ∧ Aside0 (wc.heap[gb647]? = some (.cells #[(.slice Ao92 t641.length co92), .int .i64 t644, .string t645] 31 (0, 0))) ∧ Aside0 (Below w.heap.size w wc))
     case first =>
      have H := HC50.out
      clear HC50
      replace H := bi_ H; obtain ⟨t648, A96, H⟩ := H
      replace H := itb_ H; obtain ⟨rfl, H⟩ | ⟨rfl, H⟩ := H
      ·have H' := Aside0.mk H
       clear H
       have hnb98 := NB647_601.out
       have hnc98 := NB601_647.out
       have hnb99 := NB647_602.out
       have hnc99 := NB602_647.out
       have hnb100 := NB647_626.out
       have hnc100 := NB626_647.out
       have hnb101 := NB647_632.out
       have hnc101 := NB632_647.out
       have hz102 := cz3_ BK647
       have hnb103 := NB626_601.out
       have hnc103 := NB601_626.out
       have hnb104 := NB626_602.out
       have hnc104 := NB602_626.out
       have hnb105 := NB626_632.out
       have hnc105 := NB632_626.out
       have hz106 := cz3_ BK626
       go_wp2_with (first | ((with_reducible refine gq_ 31 71 ?_); refine gc_ 71 Try.func31 (laws_eqLog.calls k _ _ t641 t644 t645 _ _ t620 t623 t624 true _ (chf_ HO643 BK647) (cl_ HO643) (chf_ HO622 BK647) (cl_ HO622) A96.out) ?_; rintro e w107 ⟨rfl, hb⟩; refine ⟨_, rfl, ?_⟩; replace HO609 := rbf_ HO609 BK647 hb; replace HO614 := rbf_ HO614 BK647 hb; replace HO619 := rbf_ HO619 BK647 hb; replace HO622 := rbf_ HO622 BK647 hb; replace HO629 := rbf_ HO629 BK647 hb; replace HO635 := rbf_ HO635 BK647 hb; replace HO638 := rbf_ HO638 BK647 hb; replace HO643 := rbf_ HO643 BK647 hb; replace BK601 := kp_ BK601 hb; replace BK602 := kp_ BK602 hb; replace BK626 := kp_ BK626 hb; replace BK632 := kp_ BK632 hb; replace BK647 := kp_ BK647 hb; replace HB := ss_ HB hb; clear hb))
       go_meet
       case rel => exact ⟨_, ((t646 != t625)), e1_, H', ⟨le_⟩, ⟨by (with_reducible repeat (first | apply Kd.R_alloc | apply Kd.R_drewN | apply Kd.R_drew)); exact Kd.R_mono HO635.out (fun _ hk => trivial)⟩, ⟨by (with_reducible repeat (first | apply Kd.R_alloc | apply Kd.R_drewN | apply Kd.R_drew)); exact Kd.R_mono HO638.out (fun _ hk => ⟨hk.2.2.1, ⟨hk.2.2.2.1, hk.2.2.2.2⟩⟩)⟩, ⟨by (with_reducible repeat (first | apply Kd.R_alloc | apply Kd.R_drewN | apply Kd.R_drew)); exact Kd.R_mono HO622.out (fun _ hk => ⟨hk.2.2.2.1, ⟨hk.2.2.1, hk.2.2.2.2⟩⟩)⟩, ⟨by (with_reducible repeat (first | apply Kd.R_alloc | apply Kd.R_drewN | apply Kd.R_drew)); exact Kd.R_mono HO629.out (fun _ hk => ⟨hk.2.2.2.1, ⟨hk.2.2.1, hk.2.2.2.2⟩⟩)⟩, ⟨by (with_reducible repeat (first | apply Kd.R_alloc | apply Kd.R_drewN | apply Kd.R_drew)); exact Kd.R_mono HO643.out (fun _ hk => ⟨hk.2.2.2.2, ⟨hk.2.2.1, hk.2.2.2.1⟩⟩)⟩, ⟨kb_ BK601.out⟩, ⟨kb_ BK602.out⟩, ⟨kb_ BK626.out⟩, ⟨kb_ BK632.out⟩, ⟨kb_ BK647.out⟩, ⟨bw_ HB⟩⟩
      ·have H' := Aside0.mk H
       clear H
       have hnb108 := NB647_601.out
       have hnc108 := NB601_647.out
       have hnb109 := NB647_602.out
       have hnc109 := NB602_647.out
       have hnb110 := NB647_626.out
       have hnc110 := NB626_647.out
       have hnb111 := NB647_632.out
       have hnc111 := NB632_647.out
       have hz112 := cz3_ BK647
       have hnb113 := NB626_601.out
       have hnc113 := NB601_626.out
       have hnb114 := NB626_602.out
       have hnc114 := NB602_626.out
       have hnb115 := NB626_632.out
       have hnc115 := NB632_626.out
       have hz116 := cz3_ BK626
       go_wp2_with (first | ((with_reducible refine gq_ 31 71 ?_); refine gc_ 71 Try.func31 (laws_eqLog.calls k _ _ t641 t644 t645 _ _ t620 t623 t624 false _ (chf_ HO643 BK647) (cl_ HO643) (chf_ HO622 BK647) (cl_ HO622) A96.out) ?_; rintro e w117 ⟨rfl, hb⟩; refine ⟨_, rfl, ?_⟩; replace HO609 := rbf_ HO609 BK647 hb; replace HO614 := rbf_ HO614 BK647 hb; replace HO619 := rbf_ HO619 BK647 hb; replace HO622 := rbf_ HO622 BK647 hb; replace HO629 := rbf_ HO629 BK647 hb; replace HO635 := rbf_ HO635 BK647 hb; replace HO638 := rbf_ HO638 BK647 hb; replace HO643 := rbf_ HO643 BK647 hb; replace BK601 := kp_ BK601 hb; replace BK602 := kp_ BK602 hb; replace BK626 := kp_ BK626 hb; replace BK632 := kp_ BK632 hb; replace BK647 := kp_ BK647 hb; replace HB := ss_ HB hb; clear hb))
       go_meet
       case rel => exact ⟨_, (true), e1_, H', ⟨le_⟩, ⟨by (with_reducible repeat (first | apply Kd.R_alloc | apply Kd.R_drewN | apply Kd.R_drew)); exact Kd.R_mono HO635.out (fun _ hk => trivial)⟩, ⟨by (with_reducible repeat (first | apply Kd.R_alloc | apply Kd.R_drewN | apply Kd.R_drew)); exact Kd.R_mono HO638.out (fun _ hk => ⟨hk.2.2.1, ⟨hk.2.2.2.1, hk.2.2.2.2⟩⟩)⟩, ⟨by (with_reducible repeat (first | apply Kd.R_alloc | apply Kd.R_drewN | apply Kd.R_drew)); exact Kd.R_mono HO622.out (fun _ hk => ⟨hk.2.2.2.1, ⟨hk.2.2.1, hk.2.2.2.2⟩⟩)⟩, ⟨by (with_reducible repeat (first | apply Kd.R_alloc | apply Kd.R_drewN | apply Kd.R_drew)); exact Kd.R_mono HO629.out (fun _ hk => ⟨hk.2.2.2.1, ⟨hk.2.2.1, hk.2.2.2.2⟩⟩)⟩, ⟨by (with_reducible repeat (first | apply Kd.R_alloc | apply Kd.R_drewN | apply Kd.R_drew)); exact Kd.R_mono HO643.out (fun _ hk => ⟨hk.2.2.2.2, ⟨hk.2.2.1, hk.2.2.2.1⟩⟩)⟩, ⟨kb_ BK601.out⟩, ⟨kb_ BK602.out⟩, ⟨kb_ BK626.out⟩, ⟨kb_ BK632.out⟩, ⟨kb_ BK647.out⟩, ⟨bw_ HB⟩⟩
     case rest =>
      clear HC50
      obtain ⟨kq, x77_49, rfl, HA, HJ49, HO_13, HO_14, HO_627000, HO_633000, HO_648000, BK601, BK602, BK626, BK632, BK647, HB⟩ := hcut
      cases kq with
      | zero => exact absurd HA.out (by simp [laws_FnExactExtend.j0])
      | succ kj49 =>
       have H := HA.out
       clear HA
       simp only [laws_FnExactExtend.j0] at H
       replace H := inb_ H; obtain ⟨rfl, H⟩ := H
       replace H := bi_ H; obtain ⟨⟨t649, t652, t653⟩, A119, H⟩ := H
       dsimp only at H
       replace H := bi_ H; obtain ⟨t654, A120, H⟩ := H
       replace H := ipb_ H; obtain ⟨rfl, H⟩ := H
       replace H := bi_ H; obtain ⟨t655, A122, H⟩ := H
       replace H := bi_ H; obtain ⟨t658, A123, H⟩ := H
       replace H := ipb_ H; obtain ⟨rfl, H⟩ := H
       replace H := bi_ H; obtain ⟨t659, A125, H⟩ := H
       replace H := bi_ H; obtain ⟨t662, A126, H⟩ := H
       replace H := ipb_ H; obtain ⟨rfl, H⟩ := H
       replace H := bi_ H; obtain ⟨⟨t663, t664⟩, A128, H⟩ := H
       dsimp only at H
       replace H := bi_ H; obtain ⟨⟨t665, t666⟩, A129, H⟩ := H
       dsimp only at H
       replace H := bi_ H; obtain ⟨⟨t667, t668⟩, A130, H⟩ := H
       dsimp only at H
       have HC131 := Aside0.mk H
       clear H
       try go_wp2
       replace HO_13 := Aside0.mk (Kd.R_drew HO_13.out)
       replace HO_14 := Aside0.mk (Kd.R_drew HO_14.out)
       replace HO_627000 := Aside0.mk (Kd.R_drew HO_627000.out)
       replace HO_633000 := Aside0.mk (Kd.R_drew HO_633000.out)
       replace HO_648000 := Aside0.mk (Kd.R_drew HO_648000.out)
       replace BK601 := Aside0.mk (blk_drew BK601.out)
       replace BK602 := Aside0.mk (blk_drew BK602.out)
       replace BK626 := Aside0.mk (blk_drew BK626.out)
       replace BK632 := Aside0.mk (blk_drew BK632.out)
       replace BK647 := Aside0.mk (blk_drew BK647.out)
       replace HB := Aside0.mk (below_drew1 HB.out)
       refine start_ (n := 5) (S := fun w' => w'.cell? ⟨gb632, 0, none⟩ = some (.slice Ao78 t627.length co78) ∧ w'.cell? ⟨gb632, 1, none⟩ = some (.int .i64 t630) ∧ w'.cell? ⟨gb632, 2, none⟩ = some (.string t631) ∧ w'.cell? ⟨gb601, 0, none⟩ = some (.slice A0_0 l0_0.length c0_0) ∧ w'.cell? ⟨gb601, 1, none⟩ = some (.int .i64 a0_1) ∧ w'.cell? ⟨gb601, 2, none⟩ = some (.string a0_2)) (ds := []) (lz_ 5 0) (by kernel_rfl) rfl rfl ⟨bc0_ BK632.out, bc1_ BK632.out, bc2_ BK632.out, bc0_ BK601.out, bc1_ BK601.out, bc2_ BK601.out⟩ (fun hHeld => ?_)
       generalize wc.drew = w132 at HO_13 HO_14 HO_627000 HO_633000 HO_648000 BK601 BK602 BK626 BK632 BK647 HB hHeld ⊢
       refine tk_ 0 78 1 ?_
       refine tk_ 1 79 3 ?_
       refine one_ (i := 2) (N := some 80) (lz_ 5 7) rfl rfl (by kernel_rfl) (by decide) (fun K hK => ?_)
       refine gf_ Try.func27 (laws_toLog.calls kj49 _ _ l0_0 a0_1 a0_2 t649 t652 t653 _ (cb_ HR0_0 HB) HC0_0.out A119.out) ?_
       rintro e w133 ⟨v650, rfl, ho0, hb⟩
       refine ⟨_, rfl, ?_⟩
       replace HO_13 := rb_ HO_13 hb
       have HO651 := Aside0.mk (Kd.R_lower (Kd.R_new' (Kd.R_new' (Kd.R_new' (Kd.R_new' ho0 (lt_ HO_14)) (lt_ HO_627000)) (lt_ HO_633000)) (lt_ HO_648000)) (sz_ HB))
       replace HO_14 := re_ HO_14 ho0 hb
       replace HO_627000 := re_ HO_627000 ho0 hb
       replace HO_633000 := re_ HO_633000 ho0 hb
       replace HO_648000 := re_ HO_648000 ho0 hb
       replace BK601 := kl_ BK601 hb
       replace BK602 := kl_ BK602 hb
       replace BK626 := kl_ BK626 hb
       replace BK632 := kl_ BK632 hb
       replace BK647 := kl_ BK647 hb
       replace HB := ss_ HB hb
       clear hb ho0
       obtain ⟨Ao134, co134, eo134⟩ := Kd.R_slice HO651.out
       (first | subst eo134 | (injection eo134 with f1_ f2_ f3_; have f4_ := f1_.symm; have f5_ := f3_.symm; clear f1_ f2_ f3_; subst f4_; subst f5_))
       refine hK.out _ _ ⟨bc0_ BK632.out, bc1_ BK632.out, bc2_ BK632.out, bc0_ BK601.out, bc1_ BK601.out, bc2_ BK601.out⟩ (fun hHeld => ?_)
       clear hK K
       refine no_ 80 ?_
       refine one_ (i := 3) (N := some 81) (lz_ 5 15) rfl rfl (by kernel_rfl) (by decide) (fun K hK => ?_)
       refine gf_ Try.func31 (laws_eqLog.calls kj49 _ _ t627 t630 t631 _ _ t649 t652 t653 true _ (ch_ HO_633000) (cl_ HO_633000) (ch_ HO651) (cl_ HO651) A120.out) ?_
       rintro e w135 ⟨rfl, hb⟩
       refine ⟨_, rfl, ?_⟩
       replace HO_13 := rb_ HO_13 hb
       replace HO_14 := rb_ HO_14 hb
       replace HO_627000 := rb_ HO_627000 hb
       replace HO_633000 := rb_ HO_633000 hb
       replace HO_648000 := rb_ HO_648000 hb
       replace HO651 := rb_ HO651 hb
       replace BK601 := kl_ BK601 hb
       replace BK602 := kl_ BK602 hb
       replace BK626 := kl_ BK626 hb
       replace BK632 := kl_ BK632 hb
       replace BK647 := kl_ BK647 hb
       replace HB := ss_ HB hb
       clear hb
       refine hK.out _ _ ⟨bc0_ BK632.out, bc1_ BK632.out, bc2_ BK632.out, bc0_ BK601.out, bc1_ BK601.out, bc2_ BK601.out⟩ (fun hHeld => ?_)
       clear hK K
       refine no_ 81 ?_
       refine pk_ 4 82 31 ?_
       refine done_ (by kernel_rfl) ?_
       go_upto_region 31 with (first | ((with_reducible refine gq_ 28 85 ?_); refine gc_ 85 Try.func28 (laws_toHeadS.calls kj49 _ _ l1 t655 _ (cb_ HR1 HB) HC1.out A122.out) ?_; rintro e w136 ⟨v656, rfl, ho0, hb⟩; refine ⟨_, rfl, ?_⟩; replace HO_14 := rb_ HO_14 hb; replace HO_627000 := rb_ HO_627000 hb; replace HO_633000 := rb_ HO_633000 hb; replace HO_648000 := rb_ HO_648000 hb; replace HO651 := rb_ HO651 hb; have HO657 := Aside0.mk (Kd.R_lower (Kd.R_new' ho0 (lt_ HO_13)) (sz_ HB)); replace HO_13 := re_ HO_13 ho0 hb; replace BK601 := kl_ BK601 hb; replace BK602 := kl_ BK602 hb; replace BK626 := kl_ BK626 hb; replace BK632 := kl_ BK632 hb; replace BK647 := kl_ BK647 hb; replace HB := ss_ HB hb; clear hb ho0; obtain ⟨Ao137, co137, eo137⟩ := Kd.R_slice HO657.out; subst eo137) | ((with_reducible refine gq_ 32 86 ?_); refine gc_ 86 Try.func32 (laws_eqHeadS.calls kj49 _ _ t633 _ _ t655 true _ (ch_ HO_13) (cl_ HO_13) (ch_ HO657) (cl_ HO657) A123.out) ?_; rintro e w138 ⟨rfl, hb⟩; refine ⟨_, rfl, ?_⟩; replace HO_13 := rb_ HO_13 hb; replace HO_14 := rb_ HO_14 hb; replace HO_627000 := rb_ HO_627000 hb; replace HO_633000 := rb_ HO_633000 hb; replace HO_648000 := rb_ HO_648000 hb; replace HO651 := rb_ HO651 hb; replace HO657 := rb_ HO657 hb; replace BK601 := kl_ BK601 hb; replace BK602 := kl_ BK602 hb; replace BK626 := kl_ BK626 hb; replace BK632 := kl_ BK632 hb; replace BK647 := kl_ BK647 hb; replace HB := ss_ HB hb; clear hb) | ((with_reducible refine gq_ 30 90 ?_); refine gc_ 90 Try.func30 (laws_toStringS.calls kj49 _ _ l3 t659 _ (cb_ HR3 HB) HC3.out A125.out) ?_; rintro e w139 ⟨v660, rfl, ho0, hb⟩; refine ⟨_, rfl, ?_⟩; replace HO_13 := rb_ HO_13 hb; replace HO657 := rb_ HO657 hb; have HO661 := Aside0.mk (Kd.R_lower (Kd.R_new' (Kd.R_new' (Kd.R_new' (Kd.R_new' (Kd.R_new' ho0 (lt_ HO_14)) (lt_ HO_627000)) (lt_ HO_633000)) (lt_ HO_648000)) (lt_ HO651)) (sz_ HB)); replace HO_14 := re_ HO_14 ho0 hb; replace HO_627000 := re_ HO_627000 ho0 hb; replace HO_633000 := re_ HO_633000 ho0 hb; replace HO_648000 := re_ HO_648000 ho0 hb; replace HO651 := re_ HO651 ho0 hb; replace BK601 := kl_ BK601 hb; replace BK602 := kl_ BK602 hb; replace BK626 := kl_ BK626 hb; replace BK632 := kl_ BK632 hb; replace BK647 := kl_ BK647 hb; replace HB := ss_ HB hb; clear hb ho0; obtain ⟨Ao140, co140, eo140⟩ := Kd.R_slice HO661.out; subst eo140) | ((with_reducible refine gq_ 33 91 ?_); refine gc_ 91 Try.func33 (laws_eqStringS.calls kj49 _ _ t636 _ _ t659 true _ (ch_ HO_14) (cl_ HO_14) (ch_ HO661) (cl_ HO661) A126.out) ?_; rintro e w' ⟨rfl, ⟨nd, rfl⟩⟩; refine ⟨_, rfl, ?_⟩; have hnb141 := NB632_601.out; have hnc141 := NB601_632.out; have hnb142 := NB632_602.out; have hnc142 := NB602_632.out; have hnb143 := NB632_626.out; have hnc143 := NB626_632.out; have hnb144 := NB632_647.out; have hnc144 := NB647_632.out; have hz145 := cz3_ BK632) | ((with_reducible refine gq_ 34 95 ?_); refine gc_ 95 Try.func34 (laws_markLog.calls kj49 (fun k_ => some k_ = (.slice Ao78 t627.length co78 : Value).ownBlock) (.slice Ao78 t627.length co78) t627 t630 t631 1 t663 t664 w _ (bw_ HB) (Kd.R_tight rfl HO_633000.out) A128.out) ?_; rintro e w146 ⟨rfl, hy0, hb, hkp⟩; refine ⟨_, rfl, ?_⟩; replace HO_13 := Aside0.mk (Kd.R_mono (ok' := fun k_ => some k_ ≠ (.slice Ao137 t655.length co137 : Value).ownBlock) (Kd.R_keptB ((Kd.R_apart' HO_13.out (Kd.R_typed HO_633000.out) (by decide))) hkp (fun k_ hk_ hs_ => (hk_.2) hs_)) (fun k_ hk_ => hk_.1.1.2)); replace HO_14 := Aside0.mk (Kd.R_mono (ok' := fun k_ => some k_ ≠ (.slice Ao70 t620.length co70 : Value).ownBlock ∧ some k_ ≠ (.slice Ao78 t627.length co78 : Value).ownBlock ∧ some k_ ≠ (.slice Ao92 t641.length co92 : Value).ownBlock ∧ some k_ ≠ (.slice Ao134 t649.length co134 : Value).ownBlock ∧ some k_ ≠ (.slice Ao140 t659.length co140 : Value).ownBlock) (Kd.R_keptB (HO_14.out) hkp (fun k_ hk_ hs_ => (hk_.1.1.2.1) hs_)) (fun k_ hk_ => ⟨hk_.1.1.1.1, hk_.1.1.1.2.1, hk_.1.1.1.2.2, hk_.1.1.2, hk_.1.2⟩)); replace HO_627000 := Aside0.mk (Kd.R_mono (ok' := fun k_ => some k_ ≠ (.slice Ao86 t636.length co86 : Value).ownBlock ∧ some k_ ≠ (.slice Ao78 t627.length co78 : Value).ownBlock ∧ some k_ ≠ (.slice Ao92 t641.length co92 : Value).ownBlock ∧ some k_ ≠ (.slice Ao134 t649.length co134 : Value).ownBlock ∧ some k_ ≠ (.slice Ao140 t659.length co140 : Value).ownBlock) (Kd.R_keptB (HO_627000.out) hkp (fun k_ hk_ hs_ => (hk_.1.1.2.1) hs_)) (fun k_ hk_ => ⟨hk_.1.1.1.1, hk_.1.1.1.2.1, hk_.1.1.1.2.2, hk_.1.1.2, hk_.1.2⟩)); replace HO_648000 := Aside0.mk (Kd.R_mono (ok' := fun k_ => some k_ ≠ (.slice Ao86 t636.length co86 : Value).ownBlock ∧ some k_ ≠ (.slice Ao70 t620.length co70 : Value).ownBlock ∧ some k_ ≠ (.slice Ao78 t627.length co78 : Value).ownBlock ∧ some k_ ≠ (.slice Ao134 t649.length co134 : Value).ownBlock ∧ some k_ ≠ (.slice Ao140 t659.length co140 : Value).ownBlock) (Kd.R_keptB (HO_648000.out) hkp (fun k_ hk_ hs_ => (hk_.1.1.2.2) hs_)) (fun k_ hk_ => ⟨hk_.1.1.1.1, hk_.1.1.1.2.1, hk_.1.1.1.2.2, hk_.1.1.2, hk_.1.2⟩)); replace BK601 := Aside0.mk (blk_kept (kb_ BK601.out) hkp (fun hs_ => (fun e_ => (Kd.R_ne HO_633000.out BK601.out (by decide)) e_) hs_)); replace BK602 := Aside0.mk (blk_kept (kb_ BK602.out) hkp (fun hs_ => (fun e_ => (Kd.R_ne HO_633000.out BK602.out (by decide)) e_) hs_)); replace BK626 := Aside0.mk (blk_kept (kb_ BK626.out) hkp (fun hs_ => (fun e_ => (Kd.R_ne HO_633000.out BK626.out (by decide)) e_) hs_)); replace BK632 := Aside0.mk (blk_kept (kb_ BK632.out) hkp (fun hs_ => (fun e_ => (Kd.R_ne HO_633000.out BK632.out (by decide)) e_) hs_)); replace BK647 := Aside0.mk (blk_kept (kb_ BK647.out) hkp (fun hs_ => (fun e_ => (Kd.R_ne HO_633000.out BK647.out (by decide)) e_) hs_)); replace HO651 := Aside0.mk (Kd.R_mono (ok' := fun k_ => some k_ ≠ (.slice Ao86 t636.length co86 : Value).ownBlock ∧ some k_ ≠ (.slice Ao70 t620.length co70 : Value).ownBlock ∧ some k_ ≠ (.slice Ao78 t627.length co78 : Value).ownBlock ∧ some k_ ≠ (.slice Ao92 t641.length co92 : Value).ownBlock ∧ some k_ ≠ (.slice Ao140 t659.length co140 : Value).ownBlock) (Kd.R_keptB (HO651.out) hkp (fun k_ hk_ hs_ => (hk_.1.1.2) hs_)) (fun k_ hk_ => ⟨hk_.1.1.1.1.1.2, hk_.1.1.1.1.2, hk_.1.1.1.2, hk_.1.1.2, hk_.1.2⟩)); replace HO657 := Aside0.mk (Kd.R_mono (ok' := fun k_ => some k_ ≠ (.slice Ao85 t633.length co85 : Value).ownBlock) (Kd.R_keptB ((Kd.R_apart' HO657.out (Kd.R_typed HO_633000.out) (by decide))) hkp (fun k_ hk_ hs_ => (hk_.2) hs_)) (fun k_ hk_ => hk_.1.1.2)); replace HO_633000 := Aside0.mk (Kd.R_reok rfl hy0 (fun k_ e_ => HO_633000.out.1 k_ e_)); replace HO661 := Aside0.mk (Kd.R_mono (ok' := fun k_ => some k_ ≠ (.slice Ao86 t636.length co86 : Value).ownBlock ∧ some k_ ≠ (.slice Ao70 t620.length co70 : Value).ownBlock ∧ some k_ ≠ (.slice Ao78 t627.length co78 : Value).ownBlock ∧ some k_ ≠ (.slice Ao92 t641.length co92 : Value).ownBlock ∧ some k_ ≠ (.slice Ao134 t649.length co134 : Value).ownBlock) (Kd.R_keptB (HO661.out) hkp (fun k_ hk_ hs_ => (hk_.1.1.2) hs_)) (fun k_ hk_ => ⟨hk_.1.1.1.1.1.2, hk_.1.1.1.1.2, hk_.1.1.1.2, hk_.1.1.2, hk_.1.2⟩)); replace HB := Aside0.mk hb; clear hb hkp hy0) | ((with_reducible refine gq_ 35 98 ?_); refine gc_ 98 Try.func35 (laws_markHeadS.calls kj49 (fun k_ => some k_ = (.slice Ao85 t633.length co85 : Value).ownBlock) (.slice Ao85 t633.length co85) t633 t663 t665 t666 w _ (bw_ HB) (Kd.R_tight rfl HO_13.out) A129.out) ?_; rintro e w147 ⟨rfl, hy0, hb, hkp⟩; refine ⟨_, rfl, ?_⟩; replace HO_14 := Aside0.mk (Kd.R_mono (ok' := fun k_ => some k_ ≠ (.slice Ao70 t620.length co70 : Value).ownBlock ∧ some k_ ≠ (.slice Ao78 t627.length co78 : Value).ownBlock ∧ some k_ ≠ (.slice Ao92 t641.length co92 : Value).ownBlock ∧ some k_ ≠ (.slice Ao134 t649.length co134 : Value).ownBlock ∧ some k_ ≠ (.slice Ao140 t659.length co140 : Value).ownBlock) (Kd.R_keptB ((Kd.R_apart' HO_14.out (Kd.R_typed HO_13.out) (by decide))) hkp (fun k_ hk_ hs_ => (hk_.2) hs_)) (fun k_ hk_ => ⟨hk_.1.1.1, hk_.1.1.2.1, hk_.1.1.2.2.1, hk_.1.1.2.2.2.1, hk_.1.1.2.2.2.2⟩)); replace HO_627000 := Aside0.mk (Kd.R_mono (ok' := fun k_ => some k_ ≠ (.slice Ao86 t636.length co86 : Value).ownBlock ∧ some k_ ≠ (.slice Ao78 t627.length co78 : Value).ownBlock ∧ some k_ ≠ (.slice Ao92 t641.length co92 : Value).ownBlock ∧ some k_ ≠ (.slice Ao134 t649.length co134 : Value).ownBlock ∧ some k_ ≠ (.slice Ao140 t659.length co140 : Value).ownBlock) (Kd.R_keptB ((Kd.R_apart' HO_627000.out (Kd.R_typed HO_13.out) (by decide))) hkp (fun k_ hk_ hs_ => (hk_.2) hs_)) (fun k_ hk_ => ⟨hk_.1.1.1, hk_.1.1.2.1, hk_.1.1.2.2.1, hk_.1.1.2.2.2.1, hk_.1.1.2.2.2.2⟩)); replace HO_633000 := Aside0.mk (Kd.R_mono (ok' := fun k_ => some k_ ≠ (.slice Ao86 t636.length co86 : Value).ownBlock ∧ some k_ ≠ (.slice Ao70 t620.length co70 : Value).ownBlock ∧ some k_ ≠ (.slice Ao92 t641.length co92 : Value).ownBlock ∧ some k_ ≠ (.slice Ao134 t649.length co134 : Value).ownBlock ∧ some k_ ≠ (.slice Ao140 t659.length co140 : Value).ownBlock) (Kd.R_keptB ((Kd.R_apart' HO_633000.out (Kd.R_typed HO_13.out) (by decide))) hkp (fun k_ hk_ hs_ => (hk_.2) hs_)) (fun k_ hk_ => ⟨hk_.1.1.1.1.1, hk_.1.1.1.1.2.1, hk_.1.1.1.1.2.2, hk_.1.1.1.2, hk_.1.1.2⟩)); replace HO_648000 := Aside0.mk (Kd.R_mono (ok' := fun k_ => some k_ ≠ (.slice Ao86 t636.length co86 : Value).ownBlock ∧ some k_ ≠ (.slice Ao70 t620.length co70 : Value).ownBlock ∧ some k_ ≠ (.slice Ao78 t627.length co78 : Value).ownBlock ∧ some k_ ≠ (.slice Ao134 t649.length co134 : Value).ownBlock ∧ some k_ ≠ (.slice Ao140 t659.length co140 : Value).ownBlock) (Kd.R_keptB ((Kd.R_apart' HO_648000.out (Kd.R_typed HO_13.out) (by decide))) hkp (fun k_ hk_ hs_ => (hk_.2) hs_)) (fun k_ hk_ => ⟨hk_.1.1.1, hk_.1.1.2.1, hk_.1.1.2.2.1, hk_.1.1.2.2.2.1, hk_.1.1.2.2.2.2⟩)); replace BK601 := Aside0.mk (blk_kept (kb_ BK601.out) hkp (fun hs_ => (fun e_ => (Kd.R_ne HO_13.out BK601.out (by decide)) e_) hs_)); replace BK602 := Aside0.mk (blk_kept (kb_ BK602.out) hkp (fun hs_ => (fun e_ => (Kd.R_ne HO_13.out BK602.out (by decide)) e_) hs_)); replace BK626 := Aside0.mk (blk_kept (kb_ BK626.out) hkp (fun hs_ => (fun e_ => (Kd.R_ne HO_13.out BK626.out (by decide)) e_) hs_)); replace BK632 := Aside0.mk (blk_kept (kb_ BK632.out) hkp (fun hs_ => (fun e_ => (Kd.R_ne HO_13.out BK632.out (by decide)) e_) hs_)); replace BK647 := Aside0.mk (blk_kept (kb_ BK647.out) hkp (fun hs_ => (fun e_ => (Kd.R_ne HO_13.out BK647.out (by decide)) e_) hs_)); replace HO651 := Aside0.mk (Kd.R_mono (ok' := fun k_ => some k_ ≠ (.slice Ao86 t636.length co86 : Value).ownBlock ∧ some k_ ≠ (.slice Ao70 t620.length co70 : Value).ownBlock ∧ some k_ ≠ (.slice Ao78 t627.length co78 : Value).ownBlock ∧ some k_ ≠ (.slice Ao92 t641.length co92 : Value).ownBlock ∧ some k_ ≠ (.slice Ao140 t659.length co140 : Value).ownBlock) (Kd.R_keptB ((Kd.R_apart' HO651.out (Kd.R_typed HO_13.out) (by decide))) hkp (fun k_ hk_ hs_ => (hk_.2) hs_)) (fun k_ hk_ => ⟨hk_.1.1.1, hk_.1.1.2.1, hk_.1.1.2.2.1, hk_.1.1.2.2.2.1, hk_.1.1.2.2.2.2⟩)); replace HO657 := Aside0.mk (Kd.R_mono (ok' := fun k_ => some k_ ≠ (.slice Ao85 t633.length co85 : Value).ownBlock) (Kd.R_keptB (HO657.out) hkp (fun k_ hk_ hs_ => (hk_) hs_)) (fun k_ hk_ => hk_.1)); replace HO661 := Aside0.mk (Kd.R_mono (ok' := fun k_ => some k_ ≠ (.slice Ao86 t636.length co86 : Value).ownBlock ∧ some k_ ≠ (.slice Ao70 t620.length co70 : Value).ownBlock ∧ some k_ ≠ (.slice Ao78 t627.length co78 : Value).ownBlock ∧ some k_ ≠ (.slice Ao92 t641.length co92 : Value).ownBlock ∧ some k_ ≠ (.slice Ao134 t649.length co134 : Value).ownBlock) (Kd.R_keptB ((Kd.R_apart' HO661.out (Kd.R_typed HO_13.out) (by decide))) hkp (fun k_ hk_ hs_ => (hk_.2) hs_)) (fun k_ hk_ => ⟨hk_.1.1.1, hk_.1.1.2.1, hk_.1.1.2.2.1, hk_.1.1.2.2.2.1, hk_.1.1.2.2.2.2⟩)); replace HO_13 := Aside0.mk (Kd.R_reok rfl hy0 (fun k_ e_ => HO_13.out.1 k_ e_)); replace HB := Aside0.mk hb; clear hb hkp hy0) | ((with_reducible refine gq_ 36 101 ?_); refine gc_ 101 Try.func36 (laws_markStringS.calls kj49 (fun k_ => some k_ = (.slice Ao86 t636.length co86 : Value).ownBlock) (.slice Ao86 t636.length co86) t636 t665 t667 t668 w _ (bw_ HB) (Kd.R_tight rfl HO_14.out) A130.out) ?_; rintro e w148 ⟨rfl, hy0, hb, hkp⟩; refine ⟨_, rfl, ?_⟩; replace HO_13 := Aside0.mk (Kd.R_mono (ok' := fun k_ => some k_ ≠ (.slice Ao137 t655.length co137 : Value).ownBlock) (Kd.R_keptB ((Kd.R_apart' HO_13.out (Kd.R_typed HO_14.out) (by decide))) hkp (fun k_ hk_ hs_ => (hk_.2) hs_)) (fun k_ hk_ => hk_.1.1)); replace HO_627000 := Aside0.mk (Kd.R_mono (ok' := fun k_ => some k_ ≠ (.slice Ao86 t636.length co86 : Value).ownBlock ∧ some k_ ≠ (.slice Ao78 t627.length co78 : Value).ownBlock ∧ some k_ ≠ (.slice Ao92 t641.length co92 : Value).ownBlock ∧ some k_ ≠ (.slice Ao134 t649.length co134 : Value).ownBlock ∧ some k_ ≠ (.slice Ao140 t659.length co140 : Value).ownBlock) (Kd.R_keptB (HO_627000.out) hkp (fun k_ hk_ hs_ => (hk_.1) hs_)) (fun k_ hk_ => ⟨hk_.1.1, hk_.1.2.1, hk_.1.2.2.1, hk_.1.2.2.2.1, hk_.1.2.2.2.2⟩)); replace HO_633000 := Aside0.mk (Kd.R_mono (ok' := fun k_ => some k_ ≠ (.slice Ao86 t636.length co86 : Value).ownBlock ∧ some k_ ≠ (.slice Ao70 t620.length co70 : Value).ownBlock ∧ some k_ ≠ (.slice Ao92 t641.length co92 : Value).ownBlock ∧ some k_ ≠ (.slice Ao134 t649.length co134 : Value).ownBlock ∧ some k_ ≠ (.slice Ao140 t659.length co140 : Value).ownBlock) (Kd.R_keptB (HO_633000.out) hkp (fun k_ hk_ hs_ => (hk_.1) hs_)) (fun k_ hk_ => ⟨hk_.1.1, hk_.1.2.1, hk_.1.2.2.1, hk_.1.2.2.2.1, hk_.1.2.2.2.2⟩)); replace HO_648000 := Aside0.mk (Kd.R_mono (ok' := fun k_ => some k_ ≠ (.slice Ao86 t636.length co86 : Value).ownBlock ∧ some k_ ≠ (.slice Ao70 t620.length co70 : Value).ownBlock ∧ some k_ ≠ (.slice Ao78 t627.length co78 : Value).ownBlock ∧ some k_ ≠ (.slice Ao134 t649.length co134 : Value).ownBlock ∧ some k_ ≠ (.slice Ao140 t659.length co140 : Value).ownBlock) (Kd.R_keptB (HO_648000.out) hkp (fun k_ hk_ hs_ => (hk_.1) hs_)) (fun k_ hk_ => ⟨hk_.1.1, hk_.1.2.1, hk_.1.2.2.1, hk_.1.2.2.2.1, hk_.1.2.2.2.2⟩)); replace BK601 := Aside0.mk (blk_kept (kb_ BK601.out) hkp (fun hs_ => (fun e_ => (Kd.R_ne HO_14.out BK601.out (by decide)) e_) hs_)); replace BK602 := Aside0.mk (blk_kept (kb_ BK602.out) hkp (fun hs_ => (fun e_ => (Kd.R_ne HO_14.out BK602.out (by decide)) e_) hs_)); replace BK626 := Aside0.mk (blk_kept (kb_ BK626.out) hkp (fun hs_ => (fun e_ => (Kd.R_ne HO_14.out BK626.out (by decide)) e_) hs_)); replace BK632 := Aside0.mk (blk_kept (kb_ BK632.out) hkp (fun hs_ => (fun e_ => (Kd.R_ne HO_14.out BK632.out (by decide)) e_) hs_)); replace BK647 := Aside0.mk (blk_kept (kb_ BK647.out) hkp (fun hs_ => (fun e_ => (Kd.R_ne HO_14.out BK647.out (by decide)) e_) hs_)); replace HO651 := Aside0.mk (Kd.R_mono (ok' := fun k_ => some k_ ≠ (.slice Ao86 t636.length co86 : Value).ownBlock ∧ some k_ ≠ (.slice Ao70 t620.length co70 : Value).ownBlock ∧ some k_ ≠ (.slice Ao78 t627.length co78 : Value).ownBlock ∧ some k_ ≠ (.slice Ao92 t641.length co92 : Value).ownBlock ∧ some k_ ≠ (.slice Ao140 t659.length co140 : Value).ownBlock) (Kd.R_keptB (HO651.out) hkp (fun k_ hk_ hs_ => (hk_.1) hs_)) (fun k_ hk_ => ⟨hk_.1.1, hk_.1.2.1, hk_.1.2.2.1, hk_.1.2.2.2.1, hk_.1.2.2.2.2⟩)); replace HO657 := Aside0.mk (Kd.R_mono (ok' := fun k_ => some k_ ≠ (.slice Ao85 t633.length co85 : Value).ownBlock) (Kd.R_keptB ((Kd.R_apart' HO657.out (Kd.R_typed HO_14.out) (by decide))) hkp (fun k_ hk_ hs_ => (hk_.2) hs_)) (fun k_ hk_ => hk_.1.1)); replace HO_14 := Aside0.mk (Kd.R_reok rfl hy0 (fun k_ e_ => HO_14.out.1 k_ e_)); replace HO661 := Aside0.mk (Kd.R_mono (ok' := fun k_ => some k_ ≠ (.slice Ao86 t636.length co86 : Value).ownBlock ∧ some k_ ≠ (.slice Ao70 t620.length co70 : Value).ownBlock ∧ some k_ ≠ (.slice Ao78 t627.length co78 : Value).ownBlock ∧ some k_ ≠ (.slice Ao92 t641.length co92 : Value).ownBlock ∧ some k_ ≠ (.slice Ao134 t649.length co134 : Value).ownBlock) (Kd.R_keptB (HO661.out) hkp (fun k_ hk_ hs_ => (hk_.1) hs_)) (fun k_ hk_ => ⟨hk_.1.1, hk_.1.2.1, hk_.1.2.2.1, hk_.1.2.2.2.1, hk_.1.2.2.2.2⟩)); replace HB := Aside0.mk hb; clear hb hkp hy0))
       (try simp only [Act.put, List.setIfInBounds_toArray, List.set_cons_zero, List.set_cons_succ])
       go_cut [114] (fun v114 wc => ∃ (kq : Nat) (x114_130 : Bool), v114 = .bool x114_130 ∧ Aside0 (laws_FnExactExtend.j1 kq l1 l3 t625 x114_130 l0_0 a0_1 a0_2 a2_0 a2_1 t620 t623 t624 t641 t644 t645 = some r) ∧ Aside0 (kq ≤ kj49) ∧ Aside0 (Kd.R Kd.string 9 wc w.heap.size (fun k_ => some k_ ≠ ((.slice Ao78 t627.length co78) : Value).ownBlock ∧ some k_ ≠ ((.slice Ao92 t641.length co92) : Value).ownBlock) (.slice Ao70 t620.length co70) t620) ∧ Aside0 (Kd.R Kd.string 9 wc w.heap.size (fun k_ => some k_ ≠ ((.slice Ao70 t620.length co70) : Value).ownBlock ∧ some k_ ≠ ((.slice Ao92 t641.length co92) : Value).ownBlock) (.slice Ao78 t627.length co78) t664) ∧ Aside0 (Kd.R Kd.string 9 wc w.heap.size (fun k_ => some k_ ≠ ((.slice Ao70 t620.length co70) : Value).ownBlock ∧ some k_ ≠ ((.slice Ao78 t627.length co78) : Value).ownBlock) (.slice Ao92 t641.length co92) t641) ∧ Aside0 (wc.heap[gb601]? = some (.cells #[(.slice A0_0 l0_0.length c0_0), .int .i64 a0_1, .string a0_2] 49 (0, 0))) ∧ Aside0 (wc.heap[gb602]? = some (.cells #[.int .i64 a2_0, .string a2_1] 47 (0, 0))) ∧ Aside0 (wc.heap[gb626]? = some (.cells #[(.slice Ao70 t620.length co70), .int .i64 t623, .string t624] 31 (0, 0))) ∧ Aside0 (wc.heap[gb632]? = some (.cells #[(.slice Ao78 t627.length co78), .int .i64 t630, .string t631] 31 (0, 0))) ∧ Aside0 (wc.heap[gb647]? = some (.cells #[(.slice Ao92 t641.length co92), .int .i64 t644, .string t645] 31 (0, 0))) ∧ Aside0 (Below w.heap.size w wc))
       case first =>
        have H := HC131.out
        clear HC131
        replace H := itd_ H; obtain ⟨c149b0, H⟩ | ⟨c149b0, H⟩ := H
        ·(first | rw [c149b0] | (simp only [i64_w, i32_w]; rw [c149b0]) | skip)
         have H' := Aside0.mk H
         clear H
         go_wp2
         go_meet
         case rel => exact ⟨_, (true), e1_, H', ⟨by have := HJ49.out; first | omega | exact Nat.le_refl _⟩, ⟨by (with_reducible repeat (first | apply Kd.R_alloc | apply Kd.R_drewN | apply Kd.R_drew)); exact Kd.R_mono HO_627000.out (fun _ hk => ⟨hk.2.1, hk.2.2.1⟩)⟩, ⟨by (with_reducible repeat (first | apply Kd.R_alloc | apply Kd.R_drewN | apply Kd.R_drew)); exact Kd.R_mono HO_633000.out (fun _ hk => ⟨hk.2.1, hk.2.2.1⟩)⟩, ⟨by (with_reducible repeat (first | apply Kd.R_alloc | apply Kd.R_drewN | apply Kd.R_drew)); exact Kd.R_mono HO_648000.out (fun _ hk => ⟨hk.2.1, hk.2.2.1⟩)⟩, ⟨kb_ BK601.out⟩, ⟨kb_ BK602.out⟩, ⟨kb_ BK626.out⟩, ⟨kb_ BK632.out⟩, ⟨kb_ BK647.out⟩, ⟨bw_ HB⟩⟩
        ·(first | rw [c149b0] | (simp only [i64_w, i32_w]; rw [c149b0]) | skip)
         replace H := bi_ H; obtain ⟨t669, A150, H⟩ := H
         replace H := itb_ H; obtain ⟨rfl, H⟩ | ⟨rfl, H⟩ := H
         ·have H' := Aside0.mk H
          clear H
          have hnb152 := NB647_601.out
          have hnc152 := NB601_647.out
          have hnb153 := NB647_602.out
          have hnc153 := NB602_647.out
          have hnb154 := NB647_626.out
          have hnc154 := NB626_647.out
          have hnb155 := NB647_632.out
          have hnc155 := NB632_647.out
          have hz156 := cz3_ BK647
          have hnb157 := NB626_601.out
          have hnc157 := NB601_626.out
          have hnb158 := NB626_602.out
          have hnc158 := NB602_626.out
          have hnb159 := NB626_632.out
          have hnc159 := NB632_626.out
          have hz160 := cz3_ BK626
          go_wp2_with (first | (go_at_call 31; (with_reducible refine (laws_eqLog.calls kj49 _ _ t641 t644 t645 _ _ t620 t623 t624 true _ ?side1 ?side2 ?side3 ?side4 A150.out).mono ?_); (case side1 => exact ch_ HO_648000); (case side2 => exact (cl_ HO_648000)); (case side3 => exact ch_ HO_627000); (case side4 => exact (cl_ HO_627000)); rintro e w161 ⟨rfl, hb⟩; replace HO_13 := rb_ HO_13 hb; replace HO_14 := rb_ HO_14 hb; replace HO_627000 := rb_ HO_627000 hb; replace HO_633000 := rb_ HO_633000 hb; replace HO_648000 := rb_ HO_648000 hb; replace HO651 := rb_ HO651 hb; replace HO657 := rb_ HO657 hb; replace HO661 := rb_ HO661 hb; replace BK601 := kl_ BK601 hb; replace BK602 := kl_ BK602 hb; replace BK626 := kl_ BK626 hb; replace BK632 := kl_ BK632 hb; replace BK647 := kl_ BK647 hb; replace HB := ss_ HB hb; clear hb))
          go_meet
          case rel => exact ⟨_, ((t646 != t625)), e1_, H', ⟨by have := HJ49.out; first | omega | exact Nat.le_refl _⟩, ⟨by (with_reducible repeat (first | apply Kd.R_alloc | apply Kd.R_drewN | apply Kd.R_drew)); exact Kd.R_mono HO_627000.out (fun _ hk => ⟨hk.2.1, hk.2.2.1⟩)⟩, ⟨by (with_reducible repeat (first | apply Kd.R_alloc | apply Kd.R_drewN | apply Kd.R_drew)); exact Kd.R_mono HO_633000.out (fun _ hk => ⟨hk.2.1, hk.2.2.1⟩)⟩, ⟨by (with_reducible repeat (first | apply Kd.R_alloc | apply Kd.R_drewN | apply Kd.R_drew)); exact Kd.R_mono HO_648000.out (fun _ hk => ⟨hk.2.1, hk.2.2.1⟩)⟩, ⟨kb_ BK601.out⟩, ⟨kb_ BK602.out⟩, ⟨kb_ BK626.out⟩, ⟨kb_ BK632.out⟩, ⟨kb_ BK647.out⟩, ⟨bw_ HB⟩⟩
         ·have H' := Aside0.mk H
          clear H
          have hnb162 := NB647_601.out
          have hnc162 := NB601_647.out
          have hnb163 := NB647_602.out
          have hnc163 := NB602_647.out
          have hnb164 := NB647_626.out
          have hnc164 := NB626_647.out
          have hnb165 := NB647_632.out
          have hnc165 := NB632_647.out
          have hz166 := cz3_ BK647
          have hnb167 := NB626_601.out
          have hnc167 := NB601_626.out
          have hnb168 := NB626_602.out
          have hnc168 := NB602_626.out
          have hnb169 := NB626_632.out
          have hnc169 := NB632_626.out
          have hz170 := cz3_ BK626
          go_wp2_with (first | (go_at_call 31; (with_reducible refine (laws_eqLog.calls kj49 _ _ t641 t644 t645 _ _ t620 t623 t624 false _ ?side1 ?side2 ?side3 ?side4 A150.out).mono ?_); (case side1 => exact ch_ HO_648000); (case side2 => exact (cl_ HO_648000)); (case side3 => exact ch_ HO_627000); (case side4 => exact (cl_ HO_627000)); rintro e w171 ⟨rfl, hb⟩; replace HO_13 := rb_ HO_13 hb; replace HO_14 := rb_ HO_14 hb; replace HO_627000 := rb_ HO_627000 hb; replace HO_633000 := rb_ HO_633000 hb; replace HO_648000 := rb_ HO_648000 hb; replace HO651 := rb_ HO651 hb; replace HO657 := rb_ HO657 hb; replace HO661 := rb_ HO661 hb; replace BK601 := kl_ BK601 hb; replace BK602 := kl_ BK602 hb; replace BK626 := kl_ BK626 hb; replace BK632 := kl_ BK632 hb; replace BK647 := kl_ BK647 hb; replace HB := ss_ HB hb; clear hb))
          go_meet
          case rel => exact ⟨_, (true), e1_, H', ⟨by have := HJ49.out; first | omega | exact Nat.le_refl _⟩, ⟨by (with_reducible repeat (first | apply Kd.R_alloc | apply Kd.R_drewN | apply Kd.R_drew)); exact Kd.R_mono HO_627000.out (fun _ hk => ⟨hk.2.1, hk.2.2.1⟩)⟩, ⟨by (with_reducible repeat (first | apply Kd.R_alloc | apply Kd.R_drewN | apply Kd.R_drew)); exact Kd.R_mono HO_633000.out (fun _ hk => ⟨hk.2.1, hk.2.2.1⟩)⟩, ⟨by (with_reducible repeat (first | apply Kd.R_alloc | apply Kd.R_drewN | apply Kd.R_drew)); exact Kd.R_mono HO_648000.out (fun _ hk => ⟨hk.2.1, hk.2.2.1⟩)⟩, ⟨kb_ BK601.out⟩, ⟨kb_ BK602.out⟩, ⟨kb_ BK626.out⟩, ⟨kb_ BK632.out⟩, ⟨kb_ BK647.out⟩, ⟨bw_ HB⟩⟩
       case rest =>
        clear HC131
        try clear c1
        try clear c2
        try clear p2
        try clear c3
        try clear c9
        try clear c10
        try clear c11
        try clear c13
        try clear c29
        try clear c31
        try clear c97
        try clear c98
        try clear c99
        try clear c100
        try clear c101
        try clear c103
        try clear c104
        try clear c105
        try clear c108
        try clear c109
        try clear c110
        try clear c111
        try clear c113
        try clear c114
        try clear c115
        try clear hz102
        try clear hz106
        try clear hz112
        try clear hz116
        try clear hz145
        obtain ⟨kq, x114_130, rfl, HA, HJ130, HO_627000, HO_633000, HO_648000, BK601, BK602, BK626, BK632, BK647, HB⟩ := hcut
        have hl633000_130 := (Kd.R_reads' HO_633000.out).1
        rw [hl633000_130] at HO_633000
        (try simp only [hl633000_130])
        (try simp only [hl633000_130] at BK601)
        (try simp only [hl633000_130] at BK602)
        (try simp only [hl633000_130] at BK626)
        (try simp only [hl633000_130] at BK632)
        (try simp only [hl633000_130] at BK647)
        (try simp only [hl633000_130] at HO_627000)
        (try simp only [hl633000_130] at HO_648000)
        cases kq with
        | zero => exact absurd HA.out (by simp [laws_FnExactExtend.j1])
        | succ kj130 =>
         have H := HA.out
         clear HA
         simp only [laws_FnExactExtend.j1] at H
         replace H := inb_ H; obtain ⟨rfl, H⟩ := H
         replace H := bi_ H; obtain ⟨⟨t670, t671⟩, A173, H⟩ := H
         dsimp only at H
         replace H := bi_ H; obtain ⟨t672, A174, H⟩ := H
         replace H := ind_ H; obtain ⟨c175b0, H⟩ := H
         replace H := ip_ H; obtain ⟨c176, H⟩ := H
         have c176b0 : (t672 == t670) = true := beq_iff_eq.mpr c176
         have c176b1 : (t672 != t670) = false := bne_eq_false_iff_eq.mpr c176
         clear c176
         replace H := bi_ H; obtain ⟨⟨t673, t676, t677⟩, A177, H⟩ := H
         dsimp only at H
         replace H := bi_ H; obtain ⟨t678, A178, H⟩ := H
         replace H := bi_ H; obtain ⟨⟨t681, t682⟩, A179, H⟩ := H
         dsimp only at H
         replace H := bi_ H; obtain ⟨t683, A180, H⟩ := H
         replace H := bi_ H; obtain ⟨⟨t686, t689, t690, t691⟩, A181, H⟩ := H
         dsimp only at H
         have HC182 := Aside0.mk H
         clear H
         have hnb183 := NB647_601.out
         have hnc183 := NB601_647.out
         have hnb184 := NB647_602.out
         have hnc184 := NB602_647.out
         have hnb185 := NB647_626.out
         have hnc185 := NB626_647.out
         have hnb186 := NB647_632.out
         have hnc186 := NB632_647.out
         have hz187 := cz3_ BK647
         try go_wp2_with (first | ((with_reducible refine gq_ 34 117 ?_); refine gc_ 117 Try.func34 (laws_markLog.calls kj130 (fun k_ => some k_ = (.slice Ao92 t641.length co92 : Value).ownBlock) (.slice Ao92 t641.length co92) t641 t644 t645 1 t670 t671 w _ (bw_ HB) (Kd.R_tight rfl HO_648000.out) A173.out) ?_; rintro e w188 ⟨rfl, hy0, hb, hkp⟩; refine ⟨_, rfl, ?_⟩; replace HO_627000 := Aside0.mk (Kd.R_mono (ok' := fun k_ => some k_ ≠ (.slice Ao78 t664.length co78 : Value).ownBlock ∧ some k_ ≠ (.slice Ao92 t641.length co92 : Value).ownBlock) (Kd.R_keptB (HO_627000.out) hkp (fun k_ hk_ hs_ => (hk_.2) hs_)) (fun k_ hk_ => ⟨hk_.1.1, hk_.1.2⟩)); replace HO_633000 := Aside0.mk (Kd.R_mono (ok' := fun k_ => some k_ ≠ (.slice Ao70 t620.length co70 : Value).ownBlock ∧ some k_ ≠ (.slice Ao92 t641.length co92 : Value).ownBlock) (Kd.R_keptB (HO_633000.out) hkp (fun k_ hk_ hs_ => (hk_.2) hs_)) (fun k_ hk_ => ⟨hk_.1.1, hk_.1.2⟩)); replace BK601 := Aside0.mk (blk_kept (kb_ BK601.out) hkp (fun hs_ => (fun e_ => (Kd.R_ne HO_648000.out BK601.out (by decide)) e_) hs_)); replace BK602 := Aside0.mk (blk_kept (kb_ BK602.out) hkp (fun hs_ => (fun e_ => (Kd.R_ne HO_648000.out BK602.out (by decide)) e_) hs_)); replace BK626 := Aside0.mk (blk_kept (kb_ BK626.out) hkp (fun hs_ => (fun e_ => (Kd.R_ne HO_648000.out BK626.out (by decide)) e_) hs_)); replace BK632 := Aside0.mk (blk_kept (kb_ BK632.out) hkp (fun hs_ => (fun e_ => (Kd.R_ne HO_648000.out BK632.out (by decide)) e_) hs_)); replace BK647 := Aside0.mk (blk_kept (kb_ BK647.out) hkp (fun hs_ => (fun e_ => (Kd.R_ne HO_648000.out BK647.out (by decide)) e_) hs_)); replace HO_648000 := Aside0.mk (Kd.R_reok rfl hy0 (fun k_ e_ => HO_648000.out.1 k_ e_)); replace HB := Aside0.mk hb; clear hb hkp hy0; have hz189 := cz3_ BK647) | ((with_reducible refine gk_ 37 ?_); refine gl_ 120 Try.func37 #[.agg #[.slice Ao92 t671.length co92, .int .i64 t644, .string t645], .int .i64 1] ?_ (hargs := (by (try simp only [List.map_toArray, List.map_cons, List.map_nil]); first | done | (rw [show t671.length = t641.length from (Kd.R_reads' HO_648000.out).1.symm] <;> rfl) | rfl | (simp only [List.length_drop, List.length_take]; rfl))); (with_reducible refine (laws_heldLog.calls kj130 _ _ t671 t644 t645 1 t672 _ ?side1 ?side2 A174.out).mono ?_); (case side1 => exact ch_ HO_648000); (case side2 => rw [show t671.length = t641.length from (Kd.R_reads' HO_648000.out).1.symm]; exact (cl_ HO_648000)); rintro e w190 ⟨rfl, hb⟩; refine ⟨_, rfl, ?_⟩; replace HO_627000 := rb_ HO_627000 hb; replace HO_633000 := rb_ HO_633000 hb; replace HO_648000 := rb_ HO_648000 hb; replace BK601 := kl_ BK601 hb; replace BK602 := kl_ BK602 hb; replace BK626 := kl_ BK626 hb; replace BK632 := kl_ BK632 hb; replace BK647 := kl_ BK647 hb; replace HB := ss_ HB hb; clear hb))
         replace HO_627000 := Aside0.mk (Kd.R_drew HO_627000.out)
         replace HO_633000 := Aside0.mk (Kd.R_drew HO_633000.out)
         replace HO_648000 := Aside0.mk (Kd.R_drew HO_648000.out)
         replace BK601 := Aside0.mk (blk_drew BK601.out)
         replace BK602 := Aside0.mk (blk_drew BK602.out)
         replace BK626 := Aside0.mk (blk_drew BK626.out)
         replace BK632 := Aside0.mk (blk_drew BK632.out)
         replace BK647 := Aside0.mk (blk_drew BK647.out)
         replace HB := Aside0.mk (below_drew1 HB.out)
         refine start_ (n := 15) (S := fun w' => w'.cell? ⟨gb601, 0, none⟩ = some (.slice A0_0 l0_0.length c0_0) ∧ w'.cell? ⟨gb601, 1, none⟩ = some (.int .i64 a0_1) ∧ w'.cell? ⟨gb601, 2, none⟩ = some (.string a0_2) ∧ w'.cell? ⟨gb602, 0, none⟩ = some (.int .i64 a2_0) ∧ w'.cell? ⟨gb602, 1, none⟩ = some (.string a2_1)) (ds := []) (lz_ 15 0) (by kernel_rfl) rfl rfl ⟨bc0_ BK601.out, bc1_ BK601.out, bc2_ BK601.out, bc0_ BK602.out, bc1_ BK602.out⟩ (fun hHeld => ?_); refine with_tabW laws_FnExactExtend.tab41 laws_FnExactExtend.bits41 (fun HT_ HW_ => ?_)
         generalize w190.drew = w191 at HO_627000 HO_633000 HO_648000 BK601 BK602 BK626 BK632 BK647 HB hHeld ⊢
         refine pt_ 2 129 4 ?_
         refine pt_ 6 133 68 ?_
         refine tt_ 0 127 69 ?_
         refine tt_ 4 131 85 ?_
         refine join_ (σ := Value × Value × Value × Value × Nat) 2 (lz_ 15 8191) (fun s_ => [(128, .agg #[s_.1, .int .i64 t676, .string t677]), (130, s_.2.1), (132, .agg #[.int .i64 t681, .string t682]), (134, s_.2.2.1), (135, .tuple #[.agg #[s_.2.2.2.1, .int .i64 t689, .string t690], .int .i64 t691]), (20, .pointer (some ⟨s_.2.2.2.2, 0, none⟩)), (126, .tuple #[.agg #[s_.2.2.2.1, .int .i64 t689, .string t690], .int .i64 t691]), (136, .agg #[s_.2.2.2.1, .int .i64 t689, .string t690]), (137, .int .i64 t691)]) (fun s_ w' => (w'.cell? ⟨gb601, 0, none⟩ = some (.slice A0_0 l0_0.length c0_0) ∧ w'.cell? ⟨gb601, 1, none⟩ = some (.int .i64 a0_1) ∧ w'.cell? ⟨gb601, 2, none⟩ = some (.string a0_2) ∧ w'.cell? ⟨gb602, 0, none⟩ = some (.int .i64 a2_0) ∧ w'.cell? ⟨gb602, 1, none⟩ = some (.string a2_1)) ∧ (Kd.R Kd.string 9 w' w.heap.size (fun k_ => some k_ ≠ (s_.2.2.1 : Value).ownBlock ∧ some k_ ≠ (s_.2.2.2.1 : Value).ownBlock ∧ some k_ ≠ (.slice Ao70 t620.length co70 : Value).ownBlock ∧ some k_ ≠ (.slice Ao78 t664.length co78 : Value).ownBlock ∧ some k_ ≠ (.slice Ao92 t641.length co92 : Value).ownBlock) s_.1 t673) ∧ (Kd.R k28 28 w' w.heap.size (fun _ => True) s_.2.1 t678) ∧ (Kd.R Kd.string 9 w' w.heap.size (fun k_ => some k_ ≠ (s_.1 : Value).ownBlock ∧ some k_ ≠ (s_.2.2.2.1 : Value).ownBlock ∧ some k_ ≠ (.slice Ao70 t620.length co70 : Value).ownBlock ∧ some k_ ≠ (.slice Ao78 t664.length co78 : Value).ownBlock ∧ some k_ ≠ (.slice Ao92 t641.length co92 : Value).ownBlock) s_.2.2.1 t683) ∧ (Kd.R Kd.string 9 w' w.heap.size (fun k_ => some k_ ≠ (s_.1 : Value).ownBlock ∧ some k_ ≠ (s_.2.2.1 : Value).ownBlock ∧ some k_ ≠ (.slice Ao70 t620.length co70 : Value).ownBlock ∧ some k_ ≠ (.slice Ao78 t664.length co78 : Value).ownBlock ∧ some k_ ≠ (.slice Ao92 t641.length co92 : Value).ownBlock) s_.2.2.2.1 t686) ∧ (Kd.R Kd.string 9 w' w.heap.size (fun k_ => some k_ ≠ (s_.1 : Value).ownBlock ∧ some k_ ≠ (s_.2.2.1 : Value).ownBlock ∧ some k_ ≠ (s_.2.2.2.1 : Value).ownBlock ∧ some k_ ≠ (.slice Ao78 t664.length co78 : Value).ownBlock ∧ some k_ ≠ (.slice Ao92 t641.length co92 : Value).ownBlock) (.slice Ao70 t620.length co70) t620) ∧ (Kd.R Kd.string 9 w' w.heap.size (fun k_ => some k_ ≠ (s_.1 : Value).ownBlock ∧ some k_ ≠ (s_.2.2.1 : Value).ownBlock ∧ some k_ ≠ (s_.2.2.2.1 : Value).ownBlock ∧ some k_ ≠ (.slice Ao70 t620.length co70 : Value).ownBlock ∧ some k_ ≠ (.slice Ao92 t641.length co92 : Value).ownBlock) (.slice Ao78 t664.length co78) t664) ∧ (Kd.R Kd.string 9 w' w.heap.size (fun k_ => some k_ ≠ (s_.1 : Value).ownBlock ∧ some k_ ≠ (s_.2.2.1 : Value).ownBlock ∧ some k_ ≠ (s_.2.2.2.1 : Value).ownBlock ∧ some k_ ≠ (.slice Ao70 t620.length co70 : Value).ownBlock ∧ some k_ ≠ (.slice Ao78 t664.length co78 : Value).ownBlock) (.slice Ao92 t641.length co92) t671) ∧ (w'.heap[gb601]? = some (.cells #[.slice A0_0 l0_0.length c0_0, .int .i64 a0_1, .string a0_2] 49 (0, 0))) ∧ (w'.heap[gb602]? = some (.cells #[.int .i64 a2_0, .string a2_1] 47 (0, 0))) ∧ (w'.heap[gb626]? = some (.cells #[.slice Ao70 t620.length co70, .int .i64 t623, .string t624] 31 (0, 0))) ∧ (w'.heap[gb632]? = some (.cells #[.slice Ao78 t664.length co78, .int .i64 t630, .string t631] 31 (0, 0))) ∧ (w'.heap[gb647]? = some (.cells #[.slice Ao92 t641.length co92, .int .i64 t644, .string t645] 31 (0, 0))) ∧ (w'.heap[s_.2.2.2.2]? = some (.cells #[.slice none 0 0, .int .i64 0, .string (⟨#[]⟩ : ByteArray)] 31 (0, 0))) ∧ (w.heap.size ≤ s_.2.2.2.2) ∧ (w.heap.size ≤ s_.2.2.2.2) ∧ (gb601 ≠ s_.2.2.2.2) ∧ (s_.2.2.2.2 ≠ gb601) ∧ (gb602 ≠ s_.2.2.2.2) ∧ (s_.2.2.2.2 ≠ gb602) ∧ (gb626 ≠ s_.2.2.2.2) ∧ (s_.2.2.2.2 ≠ gb626) ∧ (gb632 ≠ s_.2.2.2.2) ∧ (s_.2.2.2.2 ≠ gb632) ∧ (gb647 ≠ s_.2.2.2.2) ∧ (s_.2.2.2.2 ≠ gb647) ∧ (Below w.heap.size w w')) ?_ ?_
         rotate_left
         ·intro hJ1_3_5_7_8_12
          refine join_ (σ := Value × Value × Value × Value) 3 (lz_ 15 4095) (fun s_ => [(128, .agg #[s_.1, .int .i64 t676, .string t677]), (130, s_.2.1), (132, .agg #[.int .i64 t681, .string t682]), (134, s_.2.2.1), (135, .tuple #[.agg #[s_.2.2.2, .int .i64 t689, .string t690], .int .i64 t691]), (126, .tuple #[.agg #[s_.2.2.2, .int .i64 t689, .string t690], .int .i64 t691]), (136, .agg #[s_.2.2.2, .int .i64 t689, .string t690]), (137, .int .i64 t691)]) (fun s_ w' => Aside0 (Kd.R Kd.string 9 w' w.heap.size (fun k_ => some k_ ≠ (s_.2.2.1 : Value).ownBlock ∧ some k_ ≠ (s_.2.2.2 : Value).ownBlock ∧ some k_ ≠ (.slice Ao70 t620.length co70 : Value).ownBlock ∧ some k_ ≠ (.slice Ao78 t664.length co78 : Value).ownBlock ∧ some k_ ≠ (.slice Ao92 t641.length co92 : Value).ownBlock) s_.1 t673) ∧ Aside0 (Kd.R k28 28 w' w.heap.size (fun _ => True) s_.2.1 t678) ∧ Aside0 (Kd.R Kd.string 9 w' w.heap.size (fun k_ => some k_ ≠ (s_.1 : Value).ownBlock ∧ some k_ ≠ (s_.2.2.2 : Value).ownBlock ∧ some k_ ≠ (.slice Ao70 t620.length co70 : Value).ownBlock ∧ some k_ ≠ (.slice Ao78 t664.length co78 : Value).ownBlock ∧ some k_ ≠ (.slice Ao92 t641.length co92 : Value).ownBlock) s_.2.2.1 t683) ∧ Aside0 (Kd.R Kd.string 9 w' w.heap.size (fun k_ => some k_ ≠ (s_.1 : Value).ownBlock ∧ some k_ ≠ (s_.2.2.1 : Value).ownBlock ∧ some k_ ≠ (.slice Ao70 t620.length co70 : Value).ownBlock ∧ some k_ ≠ (.slice Ao78 t664.length co78 : Value).ownBlock ∧ some k_ ≠ (.slice Ao92 t641.length co92 : Value).ownBlock) s_.2.2.2 t686) ∧ Aside0 (Kd.R Kd.string 9 w' w.heap.size (fun k_ => some k_ ≠ (s_.1 : Value).ownBlock ∧ some k_ ≠ (s_.2.2.1 : Value).ownBlock ∧ some k_ ≠ (s_.2.2.2 : Value).ownBlock ∧ some k_ ≠ (.slice Ao78 t664.length co78 : Value).ownBlock ∧ some k_ ≠ (.slice Ao92 t641.length co92 : Value).ownBlock) (.slice Ao70 t620.length co70) t620) ∧ Aside0 (Kd.R Kd.string 9 w' w.heap.size (fun k_ => some k_ ≠ (s_.1 : Value).ownBlock ∧ some k_ ≠ (s_.2.2.1 : Value).ownBlock ∧ some k_ ≠ (s_.2.2.2 : Value).ownBlock ∧ some k_ ≠ (.slice Ao70 t620.length co70 : Value).ownBlock ∧ some k_ ≠ (.slice Ao92 t641.length co92 : Value).ownBlock) (.slice Ao78 t664.length co78) t664) ∧ Aside0 (Kd.R Kd.string 9 w' w.heap.size (fun k_ => some k_ ≠ (s_.1 : Value).ownBlock ∧ some k_ ≠ (s_.2.2.1 : Value).ownBlock ∧ some k_ ≠ (s_.2.2.2 : Value).ownBlock ∧ some k_ ≠ (.slice Ao70 t620.length co70 : Value).ownBlock ∧ some k_ ≠ (.slice Ao78 t664.length co78 : Value).ownBlock) (.slice Ao92 t641.length co92) t671) ∧ Aside0 (w'.heap[gb601]? = some (.cells #[.slice A0_0 l0_0.length c0_0, .int .i64 a0_1, .string a0_2] 49 (0, 0))) ∧ Aside0 (w'.heap[gb602]? = some (.cells #[.int .i64 a2_0, .string a2_1] 47 (0, 0))) ∧ Aside0 (w'.heap[gb626]? = some (.cells #[.slice Ao70 t620.length co70, .int .i64 t623, .string t624] 31 (0, 0))) ∧ Aside0 (w'.heap[gb632]? = some (.cells #[.slice Ao78 t664.length co78, .int .i64 t630, .string t631] 31 (0, 0))) ∧ Aside0 (w'.heap[gb647]? = some (.cells #[.slice Ao92 t641.length co92, .int .i64 t644, .string t645] 31 (0, 0))) ∧ Aside0 (Below w.heap.size w w')) ?_ ?_
          rotate_left
          ·intro hJ1_3_5_7_8
           refine join_ (σ := Value × Value × Value × Nat) 6 (lz_ 15 4351) (fun s_ => [(128, .agg #[s_.1, .int .i64 t676, .string t677]), (130, s_.2.1), (132, .agg #[.int .i64 t681, .string t682]), (134, s_.2.2.1), (20, .pointer (some ⟨s_.2.2.2, 0, none⟩))]) (fun s_ w' => Aside0 (Kd.R Kd.string 9 w' w.heap.size (fun k_ => some k_ ≠ (s_.2.2.1 : Value).ownBlock ∧ some k_ ≠ (.slice Ao70 t620.length co70 : Value).ownBlock ∧ some k_ ≠ (.slice Ao78 t664.length co78 : Value).ownBlock ∧ some k_ ≠ (.slice Ao92 t641.length co92 : Value).ownBlock) s_.1 t673) ∧ Aside0 (Kd.R k28 28 w' w.heap.size (fun _ => True) s_.2.1 t678) ∧ Aside0 (Kd.R Kd.string 9 w' w.heap.size (fun k_ => some k_ ≠ (s_.1 : Value).ownBlock ∧ some k_ ≠ (.slice Ao70 t620.length co70 : Value).ownBlock ∧ some k_ ≠ (.slice Ao78 t664.length co78 : Value).ownBlock ∧ some k_ ≠ (.slice Ao92 t641.length co92 : Value).ownBlock) s_.2.2.1 t683) ∧ Aside0 (Kd.R Kd.string 9 w' w.heap.size (fun k_ => some k_ ≠ (s_.1 : Value).ownBlock ∧ some k_ ≠ (s_.2.2.1 : Value).ownBlock ∧ some k_ ≠ (.slice Ao78 t664.length co78 : Value).ownBlock ∧ some k_ ≠ (.slice Ao92 t641.length co92 : Value).ownBlock) (.slice Ao70 t620.length co70) t620) ∧ Aside0 (Kd.R Kd.string 9 w' w.heap.size (fun k_ => some k_ ≠ (s_.1 : Value).ownBlock ∧ some k_ ≠ (s_.2.2.1 : Value).ownBlock ∧ some k_ ≠ (.slice Ao70 t620.length co70 : Value).ownBlock ∧ some k_ ≠ (.slice Ao92 t641.length co92 : Value).ownBlock) (.slice Ao78 t664.length co78) t664) ∧ Aside0 (Kd.R Kd.string 9 w' w.heap.size (fun k_ => some k_ ≠ (s_.1 : Value).ownBlock ∧ some k_ ≠ (s_.2.2.1 : Value).ownBlock ∧ some k_ ≠ (.slice Ao70 t620.length co70 : Value).ownBlock ∧ some k_ ≠ (.slice Ao78 t664.length co78 : Value).ownBlock) (.slice Ao92 t641.length co92) t671) ∧ Aside0 (w'.heap[gb601]? = some (.cells #[.slice A0_0 l0_0.length c0_0, .int .i64 a0_1, .string a0_2] 49 (0, 0))) ∧ Aside0 (w'.heap[gb602]? = some (.cells #[.int .i64 a2_0, .string a2_1] 47 (0, 0))) ∧ Aside0 (w'.heap[gb626]? = some (.cells #[.slice Ao70 t620.length co70, .int .i64 t623, .string t624] 31 (0, 0))) ∧ Aside0 (w'.heap[gb632]? = some (.cells #[.slice Ao78 t664.length co78, .int .i64 t630, .string t631] 31 (0, 0))) ∧ Aside0 (w'.heap[gb647]? = some (.cells #[.slice Ao92 t641.length co92, .int .i64 t644, .string t645] 31 (0, 0))) ∧ Aside0 (w'.heap[s_.2.2.2]? = some (.cells #[.slice none 0 0, .int .i64 0, .string (⟨#[]⟩ : ByteArray)] 31 (0, 0))) ∧ Aside0 (w.heap.size ≤ s_.2.2.2) ∧ Aside0 (w.heap.size ≤ s_.2.2.2) ∧ Aside0 (gb601 ≠ s_.2.2.2) ∧ Aside0 (s_.2.2.2 ≠ gb601) ∧ Aside0 (gb602 ≠ s_.2.2.2) ∧ Aside0 (s_.2.2.2 ≠ gb602) ∧ Aside0 (gb626 ≠ s_.2.2.2) ∧ Aside0 (s_.2.2.2 ≠ gb626) ∧ Aside0 (gb632 ≠ s_.2.2.2) ∧ Aside0 (s_.2.2.2 ≠ gb632) ∧ Aside0 (gb647 ≠ s_.2.2.2) ∧ Aside0 (s_.2.2.2 ≠ gb647) ∧ Aside0 (Below w.heap.size w w')) ?_ ?_
           rotate_left
           ·intro hJ1_3_5_7_12
            refine join_ (σ := Value × Value × Value) 7 (lz_ 15 255) (fun s_ => [(128, .agg #[s_.1, .int .i64 t676, .string t677]), (130, s_.2.1), (132, .agg #[.int .i64 t681, .string t682]), (134, s_.2.2)]) (fun s_ w' => Aside0 (Kd.R Kd.string 9 w' w.heap.size (fun k_ => some k_ ≠ (s_.2.2 : Value).ownBlock ∧ some k_ ≠ (.slice Ao70 t620.length co70 : Value).ownBlock ∧ some k_ ≠ (.slice Ao78 t664.length co78 : Value).ownBlock ∧ some k_ ≠ (.slice Ao92 t641.length co92 : Value).ownBlock) s_.1 t673) ∧ Aside0 (Kd.R k28 28 w' w.heap.size (fun _ => True) s_.2.1 t678) ∧ Aside0 (Kd.R Kd.string 9 w' w.heap.size (fun k_ => some k_ ≠ (s_.1 : Value).ownBlock ∧ some k_ ≠ (.slice Ao70 t620.length co70 : Value).ownBlock ∧ some k_ ≠ (.slice Ao78 t664.length co78 : Value).ownBlock ∧ some k_ ≠ (.slice Ao92 t641.length co92 : Value).ownBlock) s_.2.2 t683) ∧ Aside0 (Kd.R Kd.string 9 w' w.heap.size (fun k_ => some k_ ≠ (s_.1 : Value).ownBlock ∧ some k_ ≠ (s_.2.2 : Value).ownBlock ∧ some k_ ≠ (.slice Ao78 t664.length co78 : Value).ownBlock ∧ some k_ ≠ (.slice Ao92 t641.length co92 : Value).ownBlock) (.slice Ao70 t620.length co70) t620) ∧ Aside0 (Kd.R Kd.string 9 w' w.heap.size (fun k_ => some k_ ≠ (s_.1 : Value).ownBlock ∧ some k_ ≠ (s_.2.2 : Value).ownBlock ∧ some k_ ≠ (.slice Ao70 t620.length co70 : Value).ownBlock ∧ some k_ ≠ (.slice Ao92 t641.length co92 : Value).ownBlock) (.slice Ao78 t664.length co78) t664) ∧ Aside0 (Kd.R Kd.string 9 w' w.heap.size (fun k_ => some k_ ≠ (s_.1 : Value).ownBlock ∧ some k_ ≠ (s_.2.2 : Value).ownBlock ∧ some k_ ≠ (.slice Ao70 t620.length co70 : Value).ownBlock ∧ some k_ ≠ (.slice Ao78 t664.length co78 : Value).ownBlock) (.slice Ao92 t641.length co92) t671) ∧ Aside0 (w'.heap[gb601]? = some (.cells #[.slice A0_0 l0_0.length c0_0, .int .i64 a0_1, .string a0_2] 49 (0, 0))) ∧ Aside0 (w'.heap[gb602]? = some (.cells #[.int .i64 a2_0, .string a2_1] 47 (0, 0))) ∧ Aside0 (w'.heap[gb626]? = some (.cells #[.slice Ao70 t620.length co70, .int .i64 t623, .string t624] 31 (0, 0))) ∧ Aside0 (w'.heap[gb632]? = some (.cells #[.slice Ao78 t664.length co78, .int .i64 t630, .string t631] 31 (0, 0))) ∧ Aside0 (w'.heap[gb647]? = some (.cells #[.slice Ao92 t641.length co92, .int .i64 t644, .string t645] 31 (0, 0))) ∧ Aside0 (Below w.heap.size w w')) ?_ ?_
            rotate_left
            ·intro hJ1_3_5_7
             refine join_ (σ := Value × Value × Nat) 7 (lz_ 15 4223) (fun s_ => [(128, .agg #[s_.1, .int .i64 t676, .string t677]), (130, s_.2.1), (132, .agg #[.int .i64 t681, .string t682]), (20, .pointer (some ⟨s_.2.2, 0, none⟩))]) (fun s_ w' => Aside0 (Kd.R Kd.string 9 w' w.heap.size (fun k_ => some k_ ≠ (.slice Ao70 t620.length co70 : Value).ownBlock ∧ some k_ ≠ (.slice Ao78 t664.length co78 : Value).ownBlock ∧ some k_ ≠ (.slice Ao92 t641.length co92 : Value).ownBlock) s_.1 t673) ∧ Aside0 (Kd.R k28 28 w' w.heap.size (fun _ => True) s_.2.1 t678) ∧ Aside0 (Kd.R Kd.string 9 w' w.heap.size (fun k_ => some k_ ≠ (s_.1 : Value).ownBlock ∧ some k_ ≠ (.slice Ao78 t664.length co78 : Value).ownBlock ∧ some k_ ≠ (.slice Ao92 t641.length co92 : Value).ownBlock) (.slice Ao70 t620.length co70) t620) ∧ Aside0 (Kd.R Kd.string 9 w' w.heap.size (fun k_ => some k_ ≠ (s_.1 : Value).ownBlock ∧ some k_ ≠ (.slice Ao70 t620.length co70 : Value).ownBlock ∧ some k_ ≠ (.slice Ao92 t641.length co92 : Value).ownBlock) (.slice Ao78 t664.length co78) t664) ∧ Aside0 (Kd.R Kd.string 9 w' w.heap.size (fun k_ => some k_ ≠ (s_.1 : Value).ownBlock ∧ some k_ ≠ (.slice Ao70 t620.length co70 : Value).ownBlock ∧ some k_ ≠ (.slice Ao78 t664.length co78 : Value).ownBlock) (.slice Ao92 t641.length co92) t671) ∧ Aside0 (w'.heap[gb601]? = some (.cells #[.slice A0_0 l0_0.length c0_0, .int .i64 a0_1, .string a0_2] 49 (0, 0))) ∧ Aside0 (w'.heap[gb602]? = some (.cells #[.int .i64 a2_0, .string a2_1] 47 (0, 0))) ∧ Aside0 (w'.heap[gb626]? = some (.cells #[.slice Ao70 t620.length co70, .int .i64 t623, .string t624] 31 (0, 0))) ∧ Aside0 (w'.heap[gb632]? = some (.cells #[.slice Ao78 t664.length co78, .int .i64 t630, .string t631] 31 (0, 0))) ∧ Aside0 (w'.heap[gb647]? = some (.cells #[.slice Ao92 t641.length co92, .int .i64 t644, .string t645] 31 (0, 0))) ∧ Aside0 (w'.heap[s_.2.2]? = some (.cells #[.slice none 0 0, .int .i64 0, .string (⟨#[]⟩ : ByteArray)] 31 (0, 0))) ∧ Aside0 (w.heap.size ≤ s_.2.2) ∧ Aside0 (w.heap.size ≤ s_.2.2) ∧ Aside0 (gb601 ≠ s_.2.2) ∧ Aside0 (s_.2.2 ≠ gb601) ∧ Aside0 (gb602 ≠ s_.2.2) ∧ Aside0 (s_.2.2 ≠ gb602) ∧ Aside0 (gb626 ≠ s_.2.2) ∧ Aside0 (s_.2.2 ≠ gb626) ∧ Aside0 (gb632 ≠ s_.2.2) ∧ Aside0 (s_.2.2 ≠ gb632) ∧ Aside0 (gb647 ≠ s_.2.2) ∧ Aside0 (s_.2.2 ≠ gb647) ∧ Aside0 (Below w.heap.size w w')) ?_ ?_
             rotate_left
             ·intro hJ1_3_5_12
              refine join_ (σ := Value × Value) 8 (lz_ 15 127) (fun s_ => [(128, .agg #[s_.1, .int .i64 t676, .string t677]), (130, s_.2), (132, .agg #[.int .i64 t681, .string t682])]) (fun s_ w' => Aside0 (Kd.R Kd.string 9 w' w.heap.size (fun k_ => some k_ ≠ (.slice Ao70 t620.length co70 : Value).ownBlock ∧ some k_ ≠ (.slice Ao78 t664.length co78 : Value).ownBlock ∧ some k_ ≠ (.slice Ao92 t641.length co92 : Value).ownBlock) s_.1 t673) ∧ Aside0 (Kd.R k28 28 w' w.heap.size (fun _ => True) s_.2 t678) ∧ Aside0 (Kd.R Kd.string 9 w' w.heap.size (fun k_ => some k_ ≠ (s_.1 : Value).ownBlock ∧ some k_ ≠ (.slice Ao78 t664.length co78 : Value).ownBlock ∧ some k_ ≠ (.slice Ao92 t641.length co92 : Value).ownBlock) (.slice Ao70 t620.length co70) t620) ∧ Aside0 (Kd.R Kd.string 9 w' w.heap.size (fun k_ => some k_ ≠ (s_.1 : Value).ownBlock ∧ some k_ ≠ (.slice Ao70 t620.length co70 : Value).ownBlock ∧ some k_ ≠ (.slice Ao92 t641.length co92 : Value).ownBlock) (.slice Ao78 t664.length co78) t664) ∧ Aside0 (Kd.R Kd.string 9 w' w.heap.size (fun k_ => some k_ ≠ (s_.1 : Value).ownBlock ∧ some k_ ≠ (.slice Ao70 t620.length co70 : Value).ownBlock ∧ some k_ ≠ (.slice Ao78 t664.length co78 : Value).ownBlock) (.slice Ao92 t641.length co92) t671) ∧ Aside0 (w'.heap[gb601]? = some (.cells #[.slice A0_0 l0_0.length c0_0, .int .i64 a0_1, .string a0_2] 49 (0, 0))) ∧ Aside0 (w'.heap[gb602]? = some (.cells #[.int .i64 a2_0, .string a2_1] 47 (0, 0))) ∧ Aside0 (w'.heap[gb626]? = some (.cells #[.slice Ao70 t620.length co70, .int .i64 t623, .string t624] 31 (0, 0))) ∧ Aside0 (w'.heap[gb632]? = some (.cells #[.slice Ao78 t664.length co78, .int .i64 t630, .string t631] 31 (0, 0))) ∧ Aside0 (w'.heap[gb647]? = some (.cells #[.slice Ao92 t641.length co92, .int .i64 t644, .string t645] 31 (0, 0))) ∧ Aside0 (Below w.heap.size w w')) ?_ ?_
              rotate_left
              ·intro hJ1_3_5
               refine join_ (σ := Value × Value × Nat) 8 (lz_ 15 4191) (fun s_ => [(128, .agg #[s_.1, .int .i64 t676, .string t677]), (130, s_.2.1), (20, .pointer (some ⟨s_.2.2, 0, none⟩))]) (fun s_ w' => Aside0 (Kd.R Kd.string 9 w' w.heap.size (fun k_ => some k_ ≠ (.slice Ao70 t620.length co70 : Value).ownBlock ∧ some k_ ≠ (.slice Ao78 t664.length co78 : Value).ownBlock ∧ some k_ ≠ (.slice Ao92 t641.length co92 : Value).ownBlock) s_.1 t673) ∧ Aside0 (Kd.R k28 28 w' w.heap.size (fun _ => True) s_.2.1 t678) ∧ Aside0 (Kd.R Kd.string 9 w' w.heap.size (fun k_ => some k_ ≠ (s_.1 : Value).ownBlock ∧ some k_ ≠ (.slice Ao78 t664.length co78 : Value).ownBlock ∧ some k_ ≠ (.slice Ao92 t641.length co92 : Value).ownBlock) (.slice Ao70 t620.length co70) t620) ∧ Aside0 (Kd.R Kd.string 9 w' w.heap.size (fun k_ => some k_ ≠ (s_.1 : Value).ownBlock ∧ some k_ ≠ (.slice Ao70 t620.length co70 : Value).ownBlock ∧ some k_ ≠ (.slice Ao92 t641.length co92 : Value).ownBlock) (.slice Ao78 t664.length co78) t664) ∧ Aside0 (Kd.R Kd.string 9 w' w.heap.size (fun k_ => some k_ ≠ (s_.1 : Value).ownBlock ∧ some k_ ≠ (.slice Ao70 t620.length co70 : Value).ownBlock ∧ some k_ ≠ (.slice Ao78 t664.length co78 : Value).ownBlock) (.slice Ao92 t641.length co92) t671) ∧ Aside0 (w'.heap[gb601]? = some (.cells #[.slice A0_0 l0_0.length c0_0, .int .i64 a0_1, .string a0_2] 49 (0, 0))) ∧ Aside0 (w'.heap[gb602]? = some (.cells #[.int .i64 a2_0, .string a2_1] 47 (0, 0))) ∧ Aside0 (w'.heap[gb626]? = some (.cells #[.slice Ao70 t620.length co70, .int .i64 t623, .string t624] 31 (0, 0))) ∧ Aside0 (w'.heap[gb632]? = some (.cells #[.slice Ao78 t664.length co78, .int .i64 t630, .string t631] 31 (0, 0))) ∧ Aside0 (w'.heap[gb647]? = some (.cells #[.slice Ao92 t641.length co92, .int .i64 t644, .string t645] 31 (0, 0))) ∧ Aside0 (w'.heap[s_.2.2]? = some (.cells #[.slice none 0 0, .int .i64 0, .string (⟨#[]⟩ : ByteArray)] 31 (0, 0))) ∧ Aside0 (w.heap.size ≤ s_.2.2) ∧ Aside0 (w.heap.size ≤ s_.2.2) ∧ Aside0 (gb601 ≠ s_.2.2) ∧ Aside0 (s_.2.2 ≠ gb601) ∧ Aside0 (gb602 ≠ s_.2.2) ∧ Aside0 (s_.2.2 ≠ gb602) ∧ Aside0 (gb626 ≠ s_.2.2) ∧ Aside0 (s_.2.2 ≠ gb626) ∧ Aside0 (gb632 ≠ s_.2.2) ∧ Aside0 (s_.2.2 ≠ gb632) ∧ Aside0 (gb647 ≠ s_.2.2) ∧ Aside0 (s_.2.2 ≠ gb647) ∧ Aside0 (Below w.heap.size w w')) ?_ ?_
               rotate_left
               ·intro hJ1_3_12
                refine join_ (σ := Value × Value) 9 (lz_ 15 95) (fun s_ => [(128, .agg #[s_.1, .int .i64 t676, .string t677]), (130, s_.2)]) (fun s_ w' => Aside0 (Kd.R Kd.string 9 w' w.heap.size (fun k_ => some k_ ≠ (.slice Ao70 t620.length co70 : Value).ownBlock ∧ some k_ ≠ (.slice Ao78 t664.length co78 : Value).ownBlock ∧ some k_ ≠ (.slice Ao92 t641.length co92 : Value).ownBlock) s_.1 t673) ∧ Aside0 (Kd.R k28 28 w' w.heap.size (fun _ => True) s_.2 t678) ∧ Aside0 (Kd.R Kd.string 9 w' w.heap.size (fun k_ => some k_ ≠ (s_.1 : Value).ownBlock ∧ some k_ ≠ (.slice Ao78 t664.length co78 : Value).ownBlock ∧ some k_ ≠ (.slice Ao92 t641.length co92 : Value).ownBlock) (.slice Ao70 t620.length co70) t620) ∧ Aside0 (Kd.R Kd.string 9 w' w.heap.size (fun k_ => some k_ ≠ (s_.1 : Value).ownBlock ∧ some k_ ≠ (.slice Ao70 t620.length co70 : Value).ownBlock ∧ some k_ ≠ (.slice Ao92 t641.length co92 : Value).ownBlock) (.slice Ao78 t664.length co78) t664) ∧ Aside0 (Kd.R Kd.string 9 w' w.heap.size (fun k_ => some k_ ≠ (s_.1 : Value).ownBlock ∧ some k_ ≠ (.slice Ao70 t620.length co70 : Value).ownBlock ∧ some k_ ≠ (.slice Ao78 t664.length co78 : Value).ownBlock) (.slice Ao92 t641.length co92) t671) ∧ Aside0 (w'.heap[gb601]? = some (.cells #[.slice A0_0 l0_0.length c0_0, .int .i64 a0_1, .string a0_2] 49 (0, 0))) ∧ Aside0 (w'.heap[gb602]? = some (.cells #[.int .i64 a2_0, .string a2_1] 47 (0, 0))) ∧ Aside0 (w'.heap[gb626]? = some (.cells #[.slice Ao70 t620.length co70, .int .i64 t623, .string t624] 31 (0, 0))) ∧ Aside0 (w'.heap[gb632]? = some (.cells #[.slice Ao78 t664.length co78, .int .i64 t630, .string t631] 31 (0, 0))) ∧ Aside0 (w'.heap[gb647]? = some (.cells #[.slice Ao92 t641.length co92, .int .i64 t644, .string t645] 31 (0, 0))) ∧ Aside0 (Below w.heap.size w w')) ?_ ?_
                rotate_left
                ·intro hJ1_3
                 refine join_ (σ := Value × Nat) 9 (lz_ 15 4183) (fun s_ => [(128, .agg #[s_.1, .int .i64 t676, .string t677]), (20, .pointer (some ⟨s_.2, 0, none⟩))]) (fun s_ w' => Aside0 (Kd.R Kd.string 9 w' w.heap.size (fun k_ => some k_ ≠ (.slice Ao70 t620.length co70 : Value).ownBlock ∧ some k_ ≠ (.slice Ao78 t664.length co78 : Value).ownBlock ∧ some k_ ≠ (.slice Ao92 t641.length co92 : Value).ownBlock) s_.1 t673) ∧ Aside0 (Kd.R Kd.string 9 w' w.heap.size (fun k_ => some k_ ≠ (s_.1 : Value).ownBlock ∧ some k_ ≠ (.slice Ao78 t664.length co78 : Value).ownBlock ∧ some k_ ≠ (.slice Ao92 t641.length co92 : Value).ownBlock) (.slice Ao70 t620.length co70) t620) ∧ Aside0 (Kd.R Kd.string 9 w' w.heap.size (fun k_ => some k_ ≠ (s_.1 : Value).ownBlock ∧ some k_ ≠ (.slice Ao70 t620.length co70 : Value).ownBlock ∧ some k_ ≠ (.slice Ao92 t641.length co92 : Value).ownBlock) (.slice Ao78 t664.length co78) t664) ∧ Aside0 (Kd.R Kd.string 9 w' w.heap.size (fun k_ => some k_ ≠ (s_.1 : Value).ownBlock ∧ some k_ ≠ (.slice Ao70 t620.length co70 : Value).ownBlock ∧ some k_ ≠ (.slice Ao78 t664.length co78 : Value).ownBlock) (.slice Ao92 t641.length co92) t671) ∧ Aside0 (w'.heap[gb601]? = some (.cells #[.slice A0_0 l0_0.length c0_0, .int .i64 a0_1, .string a0_2] 49 (0, 0))) ∧ Aside0 (w'.heap[gb602]? = some (.cells #[.int .i64 a2_0, .string a2_1] 47 (0, 0))) ∧ Aside0 (w'.heap[gb626]? = some (.cells #[.slice Ao70 t620.length co70, .int .i64 t623, .string t624] 31 (0, 0))) ∧ Aside0 (w'.heap[gb632]? = some (.cells #[.slice Ao78 t664.length co78, .int .i64 t630, .string t631] 31 (0, 0))) ∧ Aside0 (w'.heap[gb647]? = some (.cells #[.slice Ao92 t641.length co92, .int .i64 t644, .string t645] 31 (0, 0))) ∧ Aside0 (w'.heap[s_.2]? = some (.cells #[.slice none 0 0, .int .i64 0, .string (⟨#[]⟩ : ByteArray)] 31 (0, 0))) ∧ Aside0 (w.heap.size ≤ s_.2) ∧ Aside0 (w.heap.size ≤ s_.2) ∧ Aside0 (gb601 ≠ s_.2) ∧ Aside0 (s_.2 ≠ gb601) ∧ Aside0 (gb602 ≠ s_.2) ∧ Aside0 (s_.2 ≠ gb602) ∧ Aside0 (gb626 ≠ s_.2) ∧ Aside0 (s_.2 ≠ gb626) ∧ Aside0 (gb632 ≠ s_.2) ∧ Aside0 (s_.2 ≠ gb632) ∧ Aside0 (gb647 ≠ s_.2) ∧ Aside0 (s_.2 ≠ gb647) ∧ Aside0 (Below w.heap.size w w')) ?_ ?_
                 rotate_left
                 ·intro hJ1_12
                  refine join_ (σ := Value) 10 (lz_ 15 87) (fun s_ => [(128, .agg #[s_, .int .i64 t676, .string t677])]) (fun s_ w' => Aside0 (Kd.R Kd.string 9 w' w.heap.size (fun k_ => some k_ ≠ (.slice Ao70 t620.length co70 : Value).ownBlock ∧ some k_ ≠ (.slice Ao78 t664.length co78 : Value).ownBlock ∧ some k_ ≠ (.slice Ao92 t641.length co92 : Value).ownBlock) s_ t673) ∧ Aside0 (Kd.R Kd.string 9 w' w.heap.size (fun k_ => some k_ ≠ (s_ : Value).ownBlock ∧ some k_ ≠ (.slice Ao78 t664.length co78 : Value).ownBlock ∧ some k_ ≠ (.slice Ao92 t641.length co92 : Value).ownBlock) (.slice Ao70 t620.length co70) t620) ∧ Aside0 (Kd.R Kd.string 9 w' w.heap.size (fun k_ => some k_ ≠ (s_ : Value).ownBlock ∧ some k_ ≠ (.slice Ao70 t620.length co70 : Value).ownBlock ∧ some k_ ≠ (.slice Ao92 t641.length co92 : Value).ownBlock) (.slice Ao78 t664.length co78) t664) ∧ Aside0 (Kd.R Kd.string 9 w' w.heap.size (fun k_ => some k_ ≠ (s_ : Value).ownBlock ∧ some k_ ≠ (.slice Ao70 t620.length co70 : Value).ownBlock ∧ some k_ ≠ (.slice Ao78 t664.length co78 : Value).ownBlock) (.slice Ao92 t641.length co92) t671) ∧ Aside0 (w'.heap[gb601]? = some (.cells #[.slice A0_0 l0_0.length c0_0, .int .i64 a0_1, .string a0_2] 49 (0, 0))) ∧ Aside0 (w'.heap[gb602]? = some (.cells #[.int .i64 a2_0, .string a2_1] 47 (0, 0))) ∧ Aside0 (w'.heap[gb626]? = some (.cells #[.slice Ao70 t620.length co70, .int .i64 t623, .string t624] 31 (0, 0))) ∧ Aside0 (w'.heap[gb632]? = some (.cells #[.slice Ao78 t664.length co78, .int .i64 t630, .string t631] 31 (0, 0))) ∧ Aside0 (w'.heap[gb647]? = some (.cells #[.slice Ao92 t641.length co92, .int .i64 t644, .string t645] 31 (0, 0))) ∧ Aside0 (Below w.heap.size w w')) ?_ ?_
                  rotate_left
                  ·intro hJ1
                   refine join_ (σ := Nat) 10 (lz_ 15 4181) (fun s_ => [(20, .pointer (some ⟨s_, 0, none⟩))]) (fun s_ w' => Aside0 (Kd.R Kd.string 9 w' w.heap.size (fun k_ => some k_ ≠ (.slice Ao78 t664.length co78 : Value).ownBlock ∧ some k_ ≠ (.slice Ao92 t641.length co92 : Value).ownBlock) (.slice Ao70 t620.length co70) t620) ∧ Aside0 (Kd.R Kd.string 9 w' w.heap.size (fun k_ => some k_ ≠ (.slice Ao70 t620.length co70 : Value).ownBlock ∧ some k_ ≠ (.slice Ao92 t641.length co92 : Value).ownBlock) (.slice Ao78 t664.length co78) t664) ∧ Aside0 (Kd.R Kd.string 9 w' w.heap.size (fun k_ => some k_ ≠ (.slice Ao70 t620.length co70 : Value).ownBlock ∧ some k_ ≠ (.slice Ao78 t664.length co78 : Value).ownBlock) (.slice Ao92 t641.length co92) t671) ∧ Aside0 (w'.heap[gb601]? = some (.cells #[.slice A0_0 l0_0.length c0_0, .int .i64 a0_1, .string a0_2] 49 (0, 0))) ∧ Aside0 (w'.heap[gb602]? = some (.cells #[.int .i64 a2_0, .string a2_1] 47 (0, 0))) ∧ Aside0 (w'.heap[gb626]? = some (.cells #[.slice Ao70 t620.length co70, .int .i64 t623, .string t624] 31 (0, 0))) ∧ Aside0 (w'.heap[gb632]? = some (.cells #[.slice Ao78 t664.length co78, .int .i64 t630, .string t631] 31 (0, 0))) ∧ Aside0 (w'.heap[gb647]? = some (.cells #[.slice Ao92 t641.length co92, .int .i64 t644, .string t645] 31 (0, 0))) ∧ Aside0 (w'.heap[s_]? = some (.cells #[.slice none 0 0, .int .i64 0, .string (⟨#[]⟩ : ByteArray)] 31 (0, 0))) ∧ Aside0 (w.heap.size ≤ s_) ∧ Aside0 (w.heap.size ≤ s_) ∧ Aside0 (gb601 ≠ s_) ∧ Aside0 (s_ ≠ gb601) ∧ Aside0 (gb602 ≠ s_) ∧ Aside0 (s_ ≠ gb602) ∧ Aside0 (gb626 ≠ s_) ∧ Aside0 (s_ ≠ gb626) ∧ Aside0 (gb632 ≠ s_) ∧ Aside0 (s_ ≠ gb632) ∧ Aside0 (gb647 ≠ s_) ∧ Aside0 (s_ ≠ gb647) ∧ Aside0 (Below w.heap.size w w')) ?_ ?_
                   rotate_left
                   ·intro hJ12
                    refine two_ (i := 1) (j := 12) (Ni := some 128) (Nj := some 20) (lz_ 15 87) (lz_ 15 4181) rfl rfl rfl rfl (two_of HT_.out (by kernel_rfl)) (by decide) (by decide) (fun K hK => ?_) (fun K hK => ?_)
                    ·skip
                     refine gf_ Try.func27 (laws_toLog.calls kj130 _ _ l0_0 a0_1 a0_2 t673 t676 t677 _ (cb_ HR0_0 HB) HC0_0.out A177.out) ?_
                     rintro e w192 ⟨v674, rfl, ho0, hb⟩
                     refine ⟨_, rfl, ?_⟩
                     have HO675 := Aside0.mk (Kd.R_lower (Kd.R_new' (Kd.R_new' (Kd.R_new' ho0 (lt_ HO_627000)) (lt_ HO_633000)) (lt_ HO_648000)) (sz_ HB))
                     replace HO_627000 := re_ HO_627000 ho0 hb
                     replace HO_633000 := re_ HO_633000 ho0 hb
                     replace HO_648000 := re_ HO_648000 ho0 hb
                     replace BK601 := kl_ BK601 hb
                     replace BK602 := kl_ BK602 hb
                     replace BK626 := kl_ BK626 hb
                     replace BK632 := kl_ BK632 hb
                     replace BK647 := kl_ BK647 hb
                     replace HB := ss_ HB hb
                     clear hb ho0
                     refine hK.out _ _ ⟨bc0_ BK601.out, bc1_ BK601.out, bc2_ BK601.out, bc0_ BK602.out, bc1_ BK602.out⟩ (fun hHeld => ?_)
                     clear hK K
                     refine no_ 128 ?_
                     exact nj_ (hJ1 (v674) _ ⟨⟨kr_ (Kd.R_mono HO675.out (fun _ hk => ⟨hk.1.1.2, ⟨hk.1.2, hk.2⟩⟩))⟩, ⟨kr_ (Kd.R_mono HO_627000.out (fun _ hk => ⟨hk.2, ⟨hk.1.1, hk.1.2⟩⟩))⟩, ⟨kr_ (Kd.R_mono HO_633000.out (fun _ hk => ⟨hk.2, ⟨hk.1.1, hk.1.2⟩⟩))⟩, ⟨kr_ (Kd.R_mono HO_648000.out (fun _ hk => ⟨hk.2, ⟨hk.1.1, hk.1.2⟩⟩))⟩, ⟨kb_ BK601.out⟩, ⟨kb_ BK602.out⟩, ⟨kb_ BK626.out⟩, ⟨kb_ BK632.out⟩, ⟨kb_ BK647.out⟩, ⟨bw_ HB⟩⟩)
                    ·skip
                     refine box_step ?hg (N := 20) ?hd (cs := #[.slice none 0 0, .int .i64 0, .string (⟨#[]⟩ : ByteArray)]) (t := 31) ?hr ?_; (case hd => rfl); (case hg => rfl); (case hr => first | (go_simp; done) | (go_simp; rfl))
                     intro gb692 hg w192 hbox hb
                     replace HO_627000 := rb_ HO_627000 hb
                     replace HO_633000 := rb_ HO_633000 hb
                     replace HO_648000 := rb_ HO_648000 hb
                     have BK692 := Aside0.mk hbox
                     have GW692 := gg_ hg HB
                     have GE692 := GW692
                     replace HB := ss_ HB hb
                     have NB601_692 := nla_ hg BK601
                     have NB692_601 := nga_ hg BK601
                     replace BK601 := kl_ BK601 hb
                     have NB602_692 := nla_ hg BK602
                     have NB692_602 := nga_ hg BK602
                     replace BK602 := kl_ BK602 hb
                     have NB626_692 := nla_ hg BK626
                     have NB692_626 := nga_ hg BK626
                     replace BK626 := kl_ BK626 hb
                     have NB632_692 := nla_ hg BK632
                     have NB692_632 := nga_ hg BK632
                     replace BK632 := kl_ BK632 hb
                     have NB647_692 := nla_ hg BK647
                     have NB692_647 := nga_ hg BK647
                     replace BK647 := kl_ BK647 hb
                     clear hb hbox hg
                     refine hK.out _ _ ⟨bc0_ BK601.out, bc1_ BK601.out, bc2_ BK601.out, bc0_ BK602.out, bc1_ BK602.out⟩ (fun hHeld => ?_)
                     clear hK K
                     refine no_ 20 ?_
                     exact nj_ (hJ12 (gb692) _ ⟨⟨kr_ HO_627000.out⟩, ⟨kr_ HO_633000.out⟩, ⟨kr_ HO_648000.out⟩, ⟨kb_ BK601.out⟩, ⟨kb_ BK602.out⟩, ⟨kb_ BK626.out⟩, ⟨kb_ BK632.out⟩, ⟨kb_ BK647.out⟩, ⟨kb_ BK692.out⟩, GW692, GE692, NB601_692, NB692_601, NB602_692, NB692_602, NB626_692, NB692_626, NB632_692, NB692_632, NB647_692, NB692_647, ⟨bw_ HB⟩⟩)
                   ·clear HO_627000 HO_633000 HO_648000 BK601 BK602 BK626 BK632 BK647 HB
                    rintro gb692 w193 ⟨HO_627000, HO_633000, HO_648000, BK601, BK602, BK626, BK632, BK647, BK692, GW692, GE692, NB601_692, NB692_601, NB602_692, NB692_602, NB626_692, NB692_626, NB632_692, NB692_632, NB647_692, NB692_647, HB⟩
                    have hHeld := hn5_ (bc0_ BK601.out) (bc1_ BK601.out) (bc2_ BK601.out) (bc0_ BK602.out) (bc1_ BK602.out)
                    refine nj_ ?_
                    refine one_ (i := 1) (N := some 128) (lz_ 15 4183) rfl rfl (one_of HT_.out (by kernel_rfl)) (by decide) (fun K hK => ?_)
                    refine gf_ Try.func27 (laws_toLog.calls kj130 _ _ l0_0 a0_1 a0_2 t673 t676 t677 _ (cb_ HR0_0 HB) HC0_0.out A177.out) ?_
                    rintro e w194 ⟨v674, rfl, ho0, hb⟩
                    refine ⟨_, rfl, ?_⟩
                    have HO675 := Aside0.mk (Kd.R_lower (Kd.R_new' (Kd.R_new' (Kd.R_new' ho0 (lt_ HO_627000)) (lt_ HO_633000)) (lt_ HO_648000)) (sz_ HB))
                    replace HO_627000 := re_ HO_627000 ho0 hb
                    replace HO_633000 := re_ HO_633000 ho0 hb
                    replace HO_648000 := re_ HO_648000 ho0 hb
                    replace BK601 := kl_ BK601 hb
                    replace BK602 := kl_ BK602 hb
                    replace BK626 := kl_ BK626 hb
                    replace BK632 := kl_ BK632 hb
                    replace BK647 := kl_ BK647 hb
                    replace BK692 := kl_ BK692 hb
                    replace HB := ss_ HB hb
                    clear hb ho0
                    refine hK.out _ _ ⟨bc0_ BK601.out, bc1_ BK601.out, bc2_ BK601.out, bc0_ BK602.out, bc1_ BK602.out⟩ (fun hHeld => ?_)
                    clear hK K
                    refine no_ 128 ?_
                    exact nj_ (hJ1_12 (v674, gb692) _ ⟨⟨kr_ (Kd.R_mono HO675.out (fun _ hk => ⟨hk.1.1.2, ⟨hk.1.2, hk.2⟩⟩))⟩, ⟨kr_ (Kd.R_mono HO_627000.out (fun _ hk => ⟨hk.2, ⟨hk.1.1, hk.1.2⟩⟩))⟩, ⟨kr_ (Kd.R_mono HO_633000.out (fun _ hk => ⟨hk.2, ⟨hk.1.1, hk.1.2⟩⟩))⟩, ⟨kr_ (Kd.R_mono HO_648000.out (fun _ hk => ⟨hk.2, ⟨hk.1.1, hk.1.2⟩⟩))⟩, ⟨kb_ BK601.out⟩, ⟨kb_ BK602.out⟩, ⟨kb_ BK626.out⟩, ⟨kb_ BK632.out⟩, ⟨kb_ BK647.out⟩, ⟨kb_ BK692.out⟩, GW692, GE692, NB601_692, NB692_601, NB602_692, NB692_602, NB626_692, NB692_626, NB632_692, NB692_632, NB647_692, NB692_647, ⟨bw_ HB⟩⟩)
                  ·clear HO_627000 HO_633000 HO_648000 BK601 BK602 BK626 BK632 BK647 HB
                   rintro v674 w193 ⟨HO675, HO_627000, HO_633000, HO_648000, BK601, BK602, BK626, BK632, BK647, HB⟩
                   have hHeld := hn5_ (bc0_ BK601.out) (bc1_ BK601.out) (bc2_ BK601.out) (bc0_ BK602.out) (bc1_ BK602.out)
                   refine nj_ ?_
                   refine two_ (i := 3) (j := 12) (Ni := some 130) (Nj := some 20) (lz_ 15 95) (lz_ 15 4183) rfl rfl rfl rfl (two_of HT_.out (by kernel_rfl)) (by decide) (by decide) (fun K hK => ?_) (fun K hK => ?_)
                   ·skip
                    refine gf_ Try.func28 (laws_toHeadS.calls kj130 _ _ l1 t678 _ (cb_ HR1 HB) HC1.out A178.out) ?_
                    rintro e w194 ⟨v679, rfl, ho0, hb⟩
                    refine ⟨_, rfl, ?_⟩
                    replace HO_627000 := rb_ HO_627000 hb
                    replace HO_633000 := rb_ HO_633000 hb
                    replace HO_648000 := rb_ HO_648000 hb
                    replace HO675 := rb_ HO675 hb
                    have HO680 := Aside0.mk (Kd.R_lower ho0 (sz_ HB))
                    replace BK601 := kl_ BK601 hb
                    replace BK602 := kl_ BK602 hb
                    replace BK626 := kl_ BK626 hb
                    replace BK632 := kl_ BK632 hb
                    replace BK647 := kl_ BK647 hb
                    replace HB := ss_ HB hb
                    clear hb ho0
                    refine hK.out _ _ ⟨bc0_ BK601.out, bc1_ BK601.out, bc2_ BK601.out, bc0_ BK602.out, bc1_ BK602.out⟩ (fun hHeld => ?_)
                    clear hK K
                    refine no_ 130 ?_
                    exact nj_ (hJ1_3 (v674, v679) _ ⟨⟨kr_ HO675.out⟩, ⟨kr_ HO680.out⟩, ⟨kr_ HO_627000.out⟩, ⟨kr_ HO_633000.out⟩, ⟨kr_ HO_648000.out⟩, ⟨kb_ BK601.out⟩, ⟨kb_ BK602.out⟩, ⟨kb_ BK626.out⟩, ⟨kb_ BK632.out⟩, ⟨kb_ BK647.out⟩, ⟨bw_ HB⟩⟩)
                   ·skip
                    refine box_step ?hg (N := 20) ?hd (cs := #[.slice none 0 0, .int .i64 0, .string (⟨#[]⟩ : ByteArray)]) (t := 31) ?hr ?_; (case hd => rfl); (case hg => rfl); (case hr => first | (go_simp; done) | (go_simp; rfl))
                    intro gb692 hg w194 hbox hb
                    replace HO_627000 := rb_ HO_627000 hb
                    replace HO_633000 := rb_ HO_633000 hb
                    replace HO_648000 := rb_ HO_648000 hb
                    replace HO675 := rb_ HO675 hb
                    have BK692 := Aside0.mk hbox
                    have GW692 := gg_ hg HB
                    have GE692 := GW692
                    replace HB := ss_ HB hb
                    have NB601_692 := nla_ hg BK601
                    have NB692_601 := nga_ hg BK601
                    replace BK601 := kl_ BK601 hb
                    have NB602_692 := nla_ hg BK602
                    have NB692_602 := nga_ hg BK602
                    replace BK602 := kl_ BK602 hb
                    have NB626_692 := nla_ hg BK626
                    have NB692_626 := nga_ hg BK626
                    replace BK626 := kl_ BK626 hb
                    have NB632_692 := nla_ hg BK632
                    have NB692_632 := nga_ hg BK632
                    replace BK632 := kl_ BK632 hb
                    have NB647_692 := nla_ hg BK647
                    have NB692_647 := nga_ hg BK647
                    replace BK647 := kl_ BK647 hb
                    clear hb hbox hg
                    refine hK.out _ _ ⟨bc0_ BK601.out, bc1_ BK601.out, bc2_ BK601.out, bc0_ BK602.out, bc1_ BK602.out⟩ (fun hHeld => ?_)
                    clear hK K
                    refine no_ 20 ?_
                    exact nj_ (hJ1_12 (v674, gb692) _ ⟨⟨kr_ HO675.out⟩, ⟨kr_ HO_627000.out⟩, ⟨kr_ HO_633000.out⟩, ⟨kr_ HO_648000.out⟩, ⟨kb_ BK601.out⟩, ⟨kb_ BK602.out⟩, ⟨kb_ BK626.out⟩, ⟨kb_ BK632.out⟩, ⟨kb_ BK647.out⟩, ⟨kb_ BK692.out⟩, GW692, GE692, NB601_692, NB692_601, NB602_692, NB692_602, NB626_692, NB692_626, NB632_692, NB692_632, NB647_692, NB692_647, ⟨bw_ HB⟩⟩)
                 ·clear HO_627000 HO_633000 HO_648000 BK601 BK602 BK626 BK632 BK647 HB
                  rintro ⟨v674, gb692⟩ w194 ⟨HO675, HO_627000, HO_633000, HO_648000, BK601, BK602, BK626, BK632, BK647, BK692, GW692, GE692, NB601_692, NB692_601, NB602_692, NB692_602, NB626_692, NB692_626, NB632_692, NB692_632, NB647_692, NB692_647, HB⟩
                  dsimp only at HO675 HO_627000 HO_633000 HO_648000 BK692 GW692 GE692 NB601_692 NB692_601 NB602_692 NB692_602 NB626_692 NB692_626 NB632_692 NB692_632 NB647_692 NB692_647
                  have hHeld := hn5_ (bc0_ BK601.out) (bc1_ BK601.out) (bc2_ BK601.out) (bc0_ BK602.out) (bc1_ BK602.out)
                  refine nj_ ?_
                  refine one_ (i := 3) (N := some 130) (lz_ 15 4191) rfl rfl (one_of HT_.out (by kernel_rfl)) (by decide) (fun K hK => ?_)
                  refine gf_ Try.func28 (laws_toHeadS.calls kj130 _ _ l1 t678 _ (cb_ HR1 HB) HC1.out A178.out) ?_
                  rintro e w195 ⟨v679, rfl, ho0, hb⟩
                  refine ⟨_, rfl, ?_⟩
                  replace HO_627000 := rb_ HO_627000 hb
                  replace HO_633000 := rb_ HO_633000 hb
                  replace HO_648000 := rb_ HO_648000 hb
                  replace HO675 := rb_ HO675 hb
                  have HO680 := Aside0.mk (Kd.R_lower ho0 (sz_ HB))
                  replace BK601 := kl_ BK601 hb
                  replace BK602 := kl_ BK602 hb
                  replace BK626 := kl_ BK626 hb
                  replace BK632 := kl_ BK632 hb
                  replace BK647 := kl_ BK647 hb
                  replace BK692 := kl_ BK692 hb
                  replace HB := ss_ HB hb
                  clear hb ho0
                  refine hK.out _ _ ⟨bc0_ BK601.out, bc1_ BK601.out, bc2_ BK601.out, bc0_ BK602.out, bc1_ BK602.out⟩ (fun hHeld => ?_)
                  clear hK K
                  refine no_ 130 ?_
                  exact nj_ (hJ1_3_12 (v674, v679, gb692) _ ⟨⟨kr_ HO675.out⟩, ⟨kr_ HO680.out⟩, ⟨kr_ HO_627000.out⟩, ⟨kr_ HO_633000.out⟩, ⟨kr_ HO_648000.out⟩, ⟨kb_ BK601.out⟩, ⟨kb_ BK602.out⟩, ⟨kb_ BK626.out⟩, ⟨kb_ BK632.out⟩, ⟨kb_ BK647.out⟩, ⟨kb_ BK692.out⟩, GW692, GE692, NB601_692, NB692_601, NB602_692, NB692_602, NB626_692, NB692_626, NB632_692, NB692_632, NB647_692, NB692_647, ⟨bw_ HB⟩⟩)
                ·clear HO_627000 HO_633000 HO_648000 BK601 BK602 BK626 BK632 BK647 HB
                 rintro ⟨v674, v679⟩ w194 ⟨HO675, HO680, HO_627000, HO_633000, HO_648000, BK601, BK602, BK626, BK632, BK647, HB⟩
                 dsimp only at HO675 HO680 HO_627000 HO_633000 HO_648000
                 have hHeld := hn5_ (bc0_ BK601.out) (bc1_ BK601.out) (bc2_ BK601.out) (bc0_ BK602.out) (bc1_ BK602.out)
                 refine nj_ ?_
                 refine two_ (i := 5) (j := 12) (Ni := some 132) (Nj := some 20) (lz_ 15 127) (lz_ 15 4191) rfl rfl rfl rfl (two_of HT_.out (by kernel_rfl)) (by decide) (by decide) (fun K hK => ?_) (fun K hK => ?_)
                 ·skip
                  refine gf_ Try.func29 (laws_toHead.calls a2_0 a2_1 t681 t682 _ A179.out) ?_
                  rintro e w195 ⟨rfl, hb⟩
                  refine ⟨_, rfl, ?_⟩
                  replace HO_627000 := rb_ HO_627000 hb
                  replace HO_633000 := rb_ HO_633000 hb
                  replace HO_648000 := rb_ HO_648000 hb
                  replace HO675 := rb_ HO675 hb
                  replace HO680 := rb_ HO680 hb
                  replace BK601 := kl_ BK601 hb
                  replace BK602 := kl_ BK602 hb
                  replace BK626 := kl_ BK626 hb
                  replace BK632 := kl_ BK632 hb
                  replace BK647 := kl_ BK647 hb
                  replace HB := ss_ HB hb
                  clear hb
                  refine hK.out _ _ ⟨bc0_ BK601.out, bc1_ BK601.out, bc2_ BK601.out, bc0_ BK602.out, bc1_ BK602.out⟩ (fun hHeld => ?_)
                  clear hK K
                  refine no_ 132 ?_
                  exact nj_ (hJ1_3_5 (v674, v679) _ ⟨⟨kr_ HO675.out⟩, ⟨kr_ HO680.out⟩, ⟨kr_ HO_627000.out⟩, ⟨kr_ HO_633000.out⟩, ⟨kr_ HO_648000.out⟩, ⟨kb_ BK601.out⟩, ⟨kb_ BK602.out⟩, ⟨kb_ BK626.out⟩, ⟨kb_ BK632.out⟩, ⟨kb_ BK647.out⟩, ⟨bw_ HB⟩⟩)
                 ·skip
                  refine box_step ?hg (N := 20) ?hd (cs := #[.slice none 0 0, .int .i64 0, .string (⟨#[]⟩ : ByteArray)]) (t := 31) ?hr ?_; (case hd => rfl); (case hg => rfl); (case hr => first | (go_simp; done) | (go_simp; rfl))
                  intro gb692 hg w195 hbox hb
                  replace HO_627000 := rb_ HO_627000 hb
                  replace HO_633000 := rb_ HO_633000 hb
                  replace HO_648000 := rb_ HO_648000 hb
                  replace HO675 := rb_ HO675 hb
                  replace HO680 := rb_ HO680 hb
                  have BK692 := Aside0.mk hbox
                  have GW692 := gg_ hg HB
                  have GE692 := GW692
                  replace HB := ss_ HB hb
                  have NB601_692 := nla_ hg BK601
                  have NB692_601 := nga_ hg BK601
                  replace BK601 := kl_ BK601 hb
                  have NB602_692 := nla_ hg BK602
                  have NB692_602 := nga_ hg BK602
                  replace BK602 := kl_ BK602 hb
                  have NB626_692 := nla_ hg BK626
                  have NB692_626 := nga_ hg BK626
                  replace BK626 := kl_ BK626 hb
                  have NB632_692 := nla_ hg BK632
                  have NB692_632 := nga_ hg BK632
                  replace BK632 := kl_ BK632 hb
                  have NB647_692 := nla_ hg BK647
                  have NB692_647 := nga_ hg BK647
                  replace BK647 := kl_ BK647 hb
                  clear hb hbox hg
                  refine hK.out _ _ ⟨bc0_ BK601.out, bc1_ BK601.out, bc2_ BK601.out, bc0_ BK602.out, bc1_ BK602.out⟩ (fun hHeld => ?_)
                  clear hK K
                  refine no_ 20 ?_
                  exact nj_ (hJ1_3_12 (v674, v679, gb692) _ ⟨⟨kr_ HO675.out⟩, ⟨kr_ HO680.out⟩, ⟨kr_ HO_627000.out⟩, ⟨kr_ HO_633000.out⟩, ⟨kr_ HO_648000.out⟩, ⟨kb_ BK601.out⟩, ⟨kb_ BK602.out⟩, ⟨kb_ BK626.out⟩, ⟨kb_ BK632.out⟩, ⟨kb_ BK647.out⟩, ⟨kb_ BK692.out⟩, GW692, GE692, NB601_692, NB692_601, NB602_692, NB692_602, NB626_692, NB692_626, NB632_692, NB692_632, NB647_692, NB692_647, ⟨bw_ HB⟩⟩)
               ·clear HO_627000 HO_633000 HO_648000 BK601 BK602 BK626 BK632 BK647 HB
                rintro ⟨v674, v679, gb692⟩ w195 ⟨HO675, HO680, HO_627000, HO_633000, HO_648000, BK601, BK602, BK626, BK632, BK647, BK692, GW692, GE692, NB601_692, NB692_601, NB602_692, NB692_602, NB626_692, NB692_626, NB632_692, NB692_632, NB647_692, NB692_647, HB⟩
                dsimp only at HO675 HO680 HO_627000 HO_633000 HO_648000 BK692 GW692 GE692 NB601_692 NB692_601 NB602_692 NB692_602 NB626_692 NB692_626 NB632_692 NB692_632 NB647_692 NB692_647
                have hHeld := hn5_ (bc0_ BK601.out) (bc1_ BK601.out) (bc2_ BK601.out) (bc0_ BK602.out) (bc1_ BK602.out)
                refine nj_ ?_
                refine one_ (i := 5) (N := some 132) (lz_ 15 4223) rfl rfl (one_of HT_.out (by kernel_rfl)) (by decide) (fun K hK => ?_)
                refine gf_ Try.func29 (laws_toHead.calls a2_0 a2_1 t681 t682 _ A179.out) ?_
                rintro e w196 ⟨rfl, hb⟩
                refine ⟨_, rfl, ?_⟩
                replace HO_627000 := rb_ HO_627000 hb
                replace HO_633000 := rb_ HO_633000 hb
                replace HO_648000 := rb_ HO_648000 hb
                replace HO675 := rb_ HO675 hb
                replace HO680 := rb_ HO680 hb
                replace BK601 := kl_ BK601 hb
                replace BK602 := kl_ BK602 hb
                replace BK626 := kl_ BK626 hb
                replace BK632 := kl_ BK632 hb
                replace BK647 := kl_ BK647 hb
                replace BK692 := kl_ BK692 hb
                replace HB := ss_ HB hb
                clear hb
                refine hK.out _ _ ⟨bc0_ BK601.out, bc1_ BK601.out, bc2_ BK601.out, bc0_ BK602.out, bc1_ BK602.out⟩ (fun hHeld => ?_)
                clear hK K
                refine no_ 132 ?_
                exact nj_ (hJ1_3_5_12 (v674, v679, gb692) _ ⟨⟨kr_ HO675.out⟩, ⟨kr_ HO680.out⟩, ⟨kr_ HO_627000.out⟩, ⟨kr_ HO_633000.out⟩, ⟨kr_ HO_648000.out⟩, ⟨kb_ BK601.out⟩, ⟨kb_ BK602.out⟩, ⟨kb_ BK626.out⟩, ⟨kb_ BK632.out⟩, ⟨kb_ BK647.out⟩, ⟨kb_ BK692.out⟩, GW692, GE692, NB601_692, NB692_601, NB602_692, NB692_602, NB626_692, NB692_626, NB632_692, NB692_632, NB647_692, NB692_647, ⟨bw_ HB⟩⟩)
              ·clear HO_627000 HO_633000 HO_648000 BK601 BK602 BK626 BK632 BK647 HB
               rintro ⟨v674, v679⟩ w195 ⟨HO675, HO680, HO_627000, HO_633000, HO_648000, BK601, BK602, BK626, BK632, BK647, HB⟩
               dsimp only at HO675 HO680 HO_627000 HO_633000 HO_648000
               have hHeld := hn5_ (bc0_ BK601.out) (bc1_ BK601.out) (bc2_ BK601.out) (bc0_ BK602.out) (bc1_ BK602.out)
               refine nj_ ?_
               refine two_ (i := 7) (j := 12) (Ni := some 134) (Nj := some 20) (lz_ 15 255) (lz_ 15 4223) rfl rfl rfl rfl (two_of HT_.out (by kernel_rfl)) (by decide) (by decide) (fun K hK => ?_) (fun K hK => ?_)
               ·skip
                refine gf_ Try.func30 (laws_toStringS.calls kj130 _ _ l3 t683 _ (cb_ HR3 HB) HC3.out A180.out) ?_
                rintro e w196 ⟨v684, rfl, ho0, hb⟩
                refine ⟨_, rfl, ?_⟩
                replace HO680 := rb_ HO680 hb
                have HO685 := Aside0.mk (Kd.R_lower (Kd.R_new' (Kd.R_new' (Kd.R_new' (Kd.R_new' ho0 (lt_ HO_627000)) (lt_ HO_633000)) (lt_ HO_648000)) (lt_ HO675)) (sz_ HB))
                replace HO_627000 := re_ HO_627000 ho0 hb
                replace HO_633000 := re_ HO_633000 ho0 hb
                replace HO_648000 := re_ HO_648000 ho0 hb
                replace HO675 := re_ HO675 ho0 hb
                replace BK601 := kl_ BK601 hb
                replace BK602 := kl_ BK602 hb
                replace BK626 := kl_ BK626 hb
                replace BK632 := kl_ BK632 hb
                replace BK647 := kl_ BK647 hb
                replace HB := ss_ HB hb
                clear hb ho0
                refine hK.out _ _ ⟨bc0_ BK601.out, bc1_ BK601.out, bc2_ BK601.out, bc0_ BK602.out, bc1_ BK602.out⟩ (fun hHeld => ?_)
                clear hK K
                refine no_ 134 ?_
                exact nj_ (hJ1_3_5_7 (v674, v679, v684) _ ⟨⟨kr_ (Kd.R_mono HO675.out (fun _ hk => ⟨hk.2, ⟨hk.1.1, ⟨hk.1.2.1, hk.1.2.2⟩⟩⟩))⟩, ⟨kr_ HO680.out⟩, ⟨kr_ (Kd.R_mono HO685.out (fun _ hk => ⟨hk.2, ⟨hk.1.1.1.2, ⟨hk.1.1.2, hk.1.2⟩⟩⟩))⟩, ⟨kr_ (Kd.R_mono HO_627000.out (fun _ hk => ⟨hk.1.1, ⟨hk.2, ⟨hk.1.2.1, hk.1.2.2⟩⟩⟩))⟩, ⟨kr_ (Kd.R_mono HO_633000.out (fun _ hk => ⟨hk.1.1, ⟨hk.2, ⟨hk.1.2.1, hk.1.2.2⟩⟩⟩))⟩, ⟨kr_ (Kd.R_mono HO_648000.out (fun _ hk => ⟨hk.1.1, ⟨hk.2, ⟨hk.1.2.1, hk.1.2.2⟩⟩⟩))⟩, ⟨kb_ BK601.out⟩, ⟨kb_ BK602.out⟩, ⟨kb_ BK626.out⟩, ⟨kb_ BK632.out⟩, ⟨kb_ BK647.out⟩, ⟨bw_ HB⟩⟩)
               ·skip
                refine box_step ?hg (N := 20) ?hd (cs := #[.slice none 0 0, .int .i64 0, .string (⟨#[]⟩ : ByteArray)]) (t := 31) ?hr ?_; (case hd => rfl); (case hg => rfl); (case hr => first | (go_simp; done) | (go_simp; rfl))
                intro gb692 hg w196 hbox hb
                replace HO_627000 := rb_ HO_627000 hb
                replace HO_633000 := rb_ HO_633000 hb
                replace HO_648000 := rb_ HO_648000 hb
                replace HO675 := rb_ HO675 hb
                replace HO680 := rb_ HO680 hb
                have BK692 := Aside0.mk hbox
                have GW692 := gg_ hg HB
                have GE692 := GW692
                replace HB := ss_ HB hb
                have NB601_692 := nla_ hg BK601
                have NB692_601 := nga_ hg BK601
                replace BK601 := kl_ BK601 hb
                have NB602_692 := nla_ hg BK602
                have NB692_602 := nga_ hg BK602
                replace BK602 := kl_ BK602 hb
                have NB626_692 := nla_ hg BK626
                have NB692_626 := nga_ hg BK626
                replace BK626 := kl_ BK626 hb
                have NB632_692 := nla_ hg BK632
                have NB692_632 := nga_ hg BK632
                replace BK632 := kl_ BK632 hb
                have NB647_692 := nla_ hg BK647
                have NB692_647 := nga_ hg BK647
                replace BK647 := kl_ BK647 hb
                clear hb hbox hg
                refine hK.out _ _ ⟨bc0_ BK601.out, bc1_ BK601.out, bc2_ BK601.out, bc0_ BK602.out, bc1_ BK602.out⟩ (fun hHeld => ?_)
                clear hK K
                refine no_ 20 ?_
                exact nj_ (hJ1_3_5_12 (v674, v679, gb692) _ ⟨⟨kr_ HO675.out⟩, ⟨kr_ HO680.out⟩, ⟨kr_ HO_627000.out⟩, ⟨kr_ HO_633000.out⟩, ⟨kr_ HO_648000.out⟩, ⟨kb_ BK601.out⟩, ⟨kb_ BK602.out⟩, ⟨kb_ BK626.out⟩, ⟨kb_ BK632.out⟩, ⟨kb_ BK647.out⟩, ⟨kb_ BK692.out⟩, GW692, GE692, NB601_692, NB692_601, NB602_692, NB692_602, NB626_692, NB692_626, NB632_692, NB692_632, NB647_692, NB692_647, ⟨bw_ HB⟩⟩)
             ·clear HO_627000 HO_633000 HO_648000 BK601 BK602 BK626 BK632 BK647 HB
              rintro ⟨v674, v679, gb692⟩ w196 ⟨HO675, HO680, HO_627000, HO_633000, HO_648000, BK601, BK602, BK626, BK632, BK647, BK692, GW692, GE692, NB601_692, NB692_601, NB602_692, NB692_602, NB626_692, NB692_626, NB632_692, NB692_632, NB647_692, NB692_647, HB⟩
              dsimp only at HO675 HO680 HO_627000 HO_633000 HO_648000 BK692 GW692 GE692 NB601_692 NB692_601 NB602_692 NB692_602 NB626_692 NB692_626 NB632_692 NB692_632 NB647_692 NB692_647
              have hHeld := hn5_ (bc0_ BK601.out) (bc1_ BK601.out) (bc2_ BK601.out) (bc0_ BK602.out) (bc1_ BK602.out)
              refine nj_ ?_
              refine one_ (i := 7) (N := some 134) (lz_ 15 4351) rfl rfl (one_of HT_.out (by kernel_rfl)) (by decide) (fun K hK => ?_)
              refine gf_ Try.func30 (laws_toStringS.calls kj130 _ _ l3 t683 _ (cb_ HR3 HB) HC3.out A180.out) ?_
              rintro e w197 ⟨v684, rfl, ho0, hb⟩
              refine ⟨_, rfl, ?_⟩
              replace HO680 := rb_ HO680 hb
              have HO685 := Aside0.mk (Kd.R_lower (Kd.R_new' (Kd.R_new' (Kd.R_new' (Kd.R_new' ho0 (lt_ HO_627000)) (lt_ HO_633000)) (lt_ HO_648000)) (lt_ HO675)) (sz_ HB))
              replace HO_627000 := re_ HO_627000 ho0 hb
              replace HO_633000 := re_ HO_633000 ho0 hb
              replace HO_648000 := re_ HO_648000 ho0 hb
              replace HO675 := re_ HO675 ho0 hb
              replace BK601 := kl_ BK601 hb
              replace BK602 := kl_ BK602 hb
              replace BK626 := kl_ BK626 hb
              replace BK632 := kl_ BK632 hb
              replace BK647 := kl_ BK647 hb
              replace BK692 := kl_ BK692 hb
              replace HB := ss_ HB hb
              clear hb ho0
              refine hK.out _ _ ⟨bc0_ BK601.out, bc1_ BK601.out, bc2_ BK601.out, bc0_ BK602.out, bc1_ BK602.out⟩ (fun hHeld => ?_)
              clear hK K
              refine no_ 134 ?_
              exact nj_ (hJ1_3_5_7_12 (v674, v679, v684, gb692) _ ⟨⟨kr_ (Kd.R_mono HO675.out (fun _ hk => ⟨hk.2, ⟨hk.1.1, ⟨hk.1.2.1, hk.1.2.2⟩⟩⟩))⟩, ⟨kr_ HO680.out⟩, ⟨kr_ (Kd.R_mono HO685.out (fun _ hk => ⟨hk.2, ⟨hk.1.1.1.2, ⟨hk.1.1.2, hk.1.2⟩⟩⟩))⟩, ⟨kr_ (Kd.R_mono HO_627000.out (fun _ hk => ⟨hk.1.1, ⟨hk.2, ⟨hk.1.2.1, hk.1.2.2⟩⟩⟩))⟩, ⟨kr_ (Kd.R_mono HO_633000.out (fun _ hk => ⟨hk.1.1, ⟨hk.2, ⟨hk.1.2.1, hk.1.2.2⟩⟩⟩))⟩, ⟨kr_ (Kd.R_mono HO_648000.out (fun _ hk => ⟨hk.1.1, ⟨hk.2, ⟨hk.1.2.1, hk.1.2.2⟩⟩⟩))⟩, ⟨kb_ BK601.out⟩, ⟨kb_ BK602.out⟩, ⟨kb_ BK626.out⟩, ⟨kb_ BK632.out⟩, ⟨kb_ BK647.out⟩, ⟨kb_ BK692.out⟩, GW692, GE692, NB601_692, NB692_601, NB602_692, NB692_602, NB626_692, NB692_626, NB632_692, NB692_632, NB647_692, NB692_647, ⟨bw_ HB⟩⟩)
            ·clear HO_627000 HO_633000 HO_648000 BK601 BK602 BK626 BK632 BK647 HB
             rintro ⟨v674, v679, v684⟩ w196 ⟨HO675, HO680, HO685, HO_627000, HO_633000, HO_648000, BK601, BK602, BK626, BK632, BK647, HB⟩
             dsimp only at HO675 HO680 HO685 HO_627000 HO_633000 HO_648000
             have hHeld := hn5_ (bc0_ BK601.out) (bc1_ BK601.out) (bc2_ BK601.out) (bc0_ BK602.out) (bc1_ BK602.out)
             obtain ⟨Ao197, co197, eo197⟩ := Kd.R_slice HO675.out
             (first | subst eo197 | (injection eo197 with f1_ f2_ f3_; have f4_ := f1_.symm; have f5_ := f3_.symm; clear f1_ f2_ f3_; subst f4_; subst f5_))
             obtain ⟨Ao198, co198, eo198⟩ := Kd.R_slice HO680.out
             (first | subst eo198 | (injection eo198 with f1_ f2_ f3_; have f4_ := f1_.symm; have f5_ := f3_.symm; clear f1_ f2_ f3_; subst f4_; subst f5_))
             obtain ⟨Ao199, co199, eo199⟩ := Kd.R_slice HO685.out
             (first | subst eo199 | (injection eo199 with f1_ f2_ f3_; have f4_ := f1_.symm; have f5_ := f3_.symm; clear f1_ f2_ f3_; subst f4_; subst f5_))
             refine nj_ ?_
             refine two_ (i := 8) (j := 12) (Ni := some 135) (Nj := some 20) (lz_ 15 511) (lz_ 15 4351) rfl rfl rfl rfl (two_of HT_.out (by kernel_rfl)) (by decide) (by decide) (fun K hK => ?_) (fun K hK => ?_)
             ·skip
              refine gf_ Try.func13 (impl_Extend.calls kj130 _ _ t673 t676 t677 _ _ t678 t681 t682 _ _ t683 t686 t689 t690 t691 _ (ch_ HO675) (cl_ HO675) (ch_ HO680) (cl_ HO680) (ch_ HO685) (cl_ HO685) A181.out) ?_
              rintro e w200 ⟨v687, rfl, ho0, hb⟩
              refine ⟨_, rfl, ?_⟩
              replace HO680 := rb_ HO680 hb
              have HO688 := Aside0.mk (Kd.R_lower (Kd.R_new' (Kd.R_new' (Kd.R_new' (Kd.R_new' (Kd.R_new' ho0 (lt_ HO_627000)) (lt_ HO_633000)) (lt_ HO_648000)) (lt_ HO675)) (lt_ HO685)) (sz_ HB))
              replace HO_627000 := re_ HO_627000 ho0 hb
              replace HO_633000 := re_ HO_633000 ho0 hb
              replace HO_648000 := re_ HO_648000 ho0 hb
              replace HO675 := re_ HO675 ho0 hb
              replace HO685 := re_ HO685 ho0 hb
              replace BK601 := kl_ BK601 hb
              replace BK602 := kl_ BK602 hb
              replace BK626 := kl_ BK626 hb
              replace BK632 := kl_ BK632 hb
              replace BK647 := kl_ BK647 hb
              replace HB := ss_ HB hb
              clear hb ho0
              refine hK.out _ _ ⟨bc0_ BK601.out, bc1_ BK601.out, bc2_ BK601.out, bc0_ BK602.out, bc1_ BK602.out⟩ (fun hHeld => ?_)
              clear hK K
              refine no_ 135 ?_
              refine pt_ 9 126 1023 ?_
              refine pt_ 10 136 2047 ?_
              refine pt_ 11 137 4095 ?_
              exact nj_ (hJ1_3_5_7_8 (.slice Ao197 t673.length co197, .slice Ao198 t678.length co198, .slice Ao199 t683.length co199, v687) _ ⟨⟨kr_ (Kd.R_mono HO675.out (fun _ hk => ⟨hk.1.1, ⟨hk.2, ⟨hk.1.2.1, ⟨hk.1.2.2.1, hk.1.2.2.2⟩⟩⟩⟩))⟩, ⟨kr_ HO680.out⟩, ⟨kr_ (Kd.R_mono HO685.out (fun _ hk => ⟨hk.1.1, ⟨hk.2, ⟨hk.1.2.1, ⟨hk.1.2.2.1, hk.1.2.2.2⟩⟩⟩⟩))⟩, ⟨kr_ (Kd.R_mono HO688.out (fun _ hk => ⟨hk.1.2, ⟨hk.2, ⟨hk.1.1.1.1.2, ⟨hk.1.1.1.2, hk.1.1.2⟩⟩⟩⟩))⟩, ⟨kr_ (Kd.R_mono HO_627000.out (fun _ hk => ⟨hk.1.1, ⟨hk.1.2.1, ⟨hk.2, ⟨hk.1.2.2.1, hk.1.2.2.2⟩⟩⟩⟩))⟩, ⟨kr_ (Kd.R_mono HO_633000.out (fun _ hk => ⟨hk.1.1, ⟨hk.1.2.1, ⟨hk.2, ⟨hk.1.2.2.1, hk.1.2.2.2⟩⟩⟩⟩))⟩, ⟨kr_ (Kd.R_mono HO_648000.out (fun _ hk => ⟨hk.1.1, ⟨hk.1.2.1, ⟨hk.2, ⟨hk.1.2.2.1, hk.1.2.2.2⟩⟩⟩⟩))⟩, ⟨kb_ BK601.out⟩, ⟨kb_ BK602.out⟩, ⟨kb_ BK626.out⟩, ⟨kb_ BK632.out⟩, ⟨kb_ BK647.out⟩, ⟨bw_ HB⟩⟩)
             ·skip
              refine box_step ?hg (N := 20) ?hd (cs := #[.slice none 0 0, .int .i64 0, .string (⟨#[]⟩ : ByteArray)]) (t := 31) ?hr ?_; (case hd => rfl); (case hg => rfl); (case hr => first | (go_simp; done) | (go_simp; rfl))
              intro gb692 hg w197 hbox hb
              replace HO_627000 := rb_ HO_627000 hb
              replace HO_633000 := rb_ HO_633000 hb
              replace HO_648000 := rb_ HO_648000 hb
              replace HO675 := rb_ HO675 hb
              replace HO680 := rb_ HO680 hb
              replace HO685 := rb_ HO685 hb
              have BK692 := Aside0.mk hbox
              have GW692 := gg_ hg HB
              have GE692 := GW692
              replace HB := ss_ HB hb
              have NB601_692 := nla_ hg BK601
              have NB692_601 := nga_ hg BK601
              replace BK601 := kl_ BK601 hb
              have NB602_692 := nla_ hg BK602
              have NB692_602 := nga_ hg BK602
              replace BK602 := kl_ BK602 hb
              have NB626_692 := nla_ hg BK626
              have NB692_626 := nga_ hg BK626
              replace BK626 := kl_ BK626 hb
              have NB632_692 := nla_ hg BK632
              have NB692_632 := nga_ hg BK632
              replace BK632 := kl_ BK632 hb
              have NB647_692 := nla_ hg BK647
              have NB692_647 := nga_ hg BK647
              replace BK647 := kl_ BK647 hb
              clear hb hbox hg
              refine hK.out _ _ ⟨bc0_ BK601.out, bc1_ BK601.out, bc2_ BK601.out, bc0_ BK602.out, bc1_ BK602.out⟩ (fun hHeld => ?_)
              clear hK K
              refine no_ 20 ?_
              exact nj_ (hJ1_3_5_7_12 (.slice Ao197 t673.length co197, .slice Ao198 t678.length co198, .slice Ao199 t683.length co199, gb692) _ ⟨⟨kr_ HO675.out⟩, ⟨kr_ HO680.out⟩, ⟨kr_ HO685.out⟩, ⟨kr_ HO_627000.out⟩, ⟨kr_ HO_633000.out⟩, ⟨kr_ HO_648000.out⟩, ⟨kb_ BK601.out⟩, ⟨kb_ BK602.out⟩, ⟨kb_ BK626.out⟩, ⟨kb_ BK632.out⟩, ⟨kb_ BK647.out⟩, ⟨kb_ BK692.out⟩, GW692, GE692, NB601_692, NB692_601, NB602_692, NB692_602, NB626_692, NB692_626, NB632_692, NB692_632, NB647_692, NB692_647, ⟨bw_ HB⟩⟩)
           ·clear HO_627000 HO_633000 HO_648000 BK601 BK602 BK626 BK632 BK647 HB
            rintro ⟨v674, v679, v684, gb692⟩ w197 ⟨HO675, HO680, HO685, HO_627000, HO_633000, HO_648000, BK601, BK602, BK626, BK632, BK647, BK692, GW692, GE692, NB601_692, NB692_601, NB602_692, NB692_602, NB626_692, NB692_626, NB632_692, NB692_632, NB647_692, NB692_647, HB⟩
            dsimp only at HO675 HO680 HO685 HO_627000 HO_633000 HO_648000 BK692 GW692 GE692 NB601_692 NB692_601 NB602_692 NB692_602 NB626_692 NB692_626 NB632_692 NB692_632 NB647_692 NB692_647
            have hHeld := hn5_ (bc0_ BK601.out) (bc1_ BK601.out) (bc2_ BK601.out) (bc0_ BK602.out) (bc1_ BK602.out)
            obtain ⟨Ao198, co198, eo198⟩ := Kd.R_slice HO675.out
            (first | subst eo198 | (injection eo198 with f1_ f2_ f3_; have f4_ := f1_.symm; have f5_ := f3_.symm; clear f1_ f2_ f3_; subst f4_; subst f5_))
            obtain ⟨Ao199, co199, eo199⟩ := Kd.R_slice HO680.out
            (first | subst eo199 | (injection eo199 with f1_ f2_ f3_; have f4_ := f1_.symm; have f5_ := f3_.symm; clear f1_ f2_ f3_; subst f4_; subst f5_))
            obtain ⟨Ao200, co200, eo200⟩ := Kd.R_slice HO685.out
            (first | subst eo200 | (injection eo200 with f1_ f2_ f3_; have f4_ := f1_.symm; have f5_ := f3_.symm; clear f1_ f2_ f3_; subst f4_; subst f5_))
            refine nj_ ?_
            refine one_ (i := 8) (N := some 135) (lz_ 15 4607) rfl rfl (one_of HT_.out (by kernel_rfl)) (by decide) (fun K hK => ?_)
            refine gf_ Try.func13 (impl_Extend.calls kj130 _ _ t673 t676 t677 _ _ t678 t681 t682 _ _ t683 t686 t689 t690 t691 _ (ch_ HO675) (cl_ HO675) (ch_ HO680) (cl_ HO680) (ch_ HO685) (cl_ HO685) A181.out) ?_
            rintro e w201 ⟨v687, rfl, ho0, hb⟩
            refine ⟨_, rfl, ?_⟩
            replace HO680 := rb_ HO680 hb
            have HO688 := Aside0.mk (Kd.R_lower (Kd.R_new' (Kd.R_new' (Kd.R_new' (Kd.R_new' (Kd.R_new' ho0 (lt_ HO_627000)) (lt_ HO_633000)) (lt_ HO_648000)) (lt_ HO675)) (lt_ HO685)) (sz_ HB))
            replace HO_627000 := re_ HO_627000 ho0 hb
            replace HO_633000 := re_ HO_633000 ho0 hb
            replace HO_648000 := re_ HO_648000 ho0 hb
            replace HO675 := re_ HO675 ho0 hb
            replace HO685 := re_ HO685 ho0 hb
            replace BK601 := kl_ BK601 hb
            replace BK602 := kl_ BK602 hb
            replace BK626 := kl_ BK626 hb
            replace BK632 := kl_ BK632 hb
            replace BK647 := kl_ BK647 hb
            replace BK692 := kl_ BK692 hb
            replace HB := ss_ HB hb
            clear hb ho0
            refine hK.out _ _ ⟨bc0_ BK601.out, bc1_ BK601.out, bc2_ BK601.out, bc0_ BK602.out, bc1_ BK602.out⟩ (fun hHeld => ?_)
            clear hK K
            refine no_ 135 ?_
            refine pt_ 9 126 5119 ?_
            refine pt_ 10 136 6143 ?_
            refine pt_ 11 137 8191 ?_
            exact nj_ (hJ1_3_5_7_8_12 (.slice Ao198 t673.length co198, .slice Ao199 t678.length co199, .slice Ao200 t683.length co200, v687, gb692) _ ⟨hHeld, (kr_ (Kd.R_mono HO675.out (fun _ hk => ⟨hk.1.1, ⟨hk.2, ⟨hk.1.2.1, ⟨hk.1.2.2.1, hk.1.2.2.2⟩⟩⟩⟩))), (kr_ HO680.out), (kr_ (Kd.R_mono HO685.out (fun _ hk => ⟨hk.1.1, ⟨hk.2, ⟨hk.1.2.1, ⟨hk.1.2.2.1, hk.1.2.2.2⟩⟩⟩⟩))), (kr_ (Kd.R_mono HO688.out (fun _ hk => ⟨hk.1.2, ⟨hk.2, ⟨hk.1.1.1.1.2, ⟨hk.1.1.1.2, hk.1.1.2⟩⟩⟩⟩))), (kr_ (Kd.R_mono HO_627000.out (fun _ hk => ⟨hk.1.1, ⟨hk.1.2.1, ⟨hk.2, ⟨hk.1.2.2.1, hk.1.2.2.2⟩⟩⟩⟩))), (kr_ (Kd.R_mono HO_633000.out (fun _ hk => ⟨hk.1.1, ⟨hk.1.2.1, ⟨hk.2, ⟨hk.1.2.2.1, hk.1.2.2.2⟩⟩⟩⟩))), (kr_ (Kd.R_mono HO_648000.out (fun _ hk => ⟨hk.1.1, ⟨hk.1.2.1, ⟨hk.2, ⟨hk.1.2.2.1, hk.1.2.2.2⟩⟩⟩⟩))), (kb_ BK601.out), (kb_ BK602.out), (kb_ BK626.out), (kb_ BK632.out), (kb_ BK647.out), (kb_ BK692.out), GW692.out, GE692.out, NB601_692.out, NB692_601.out, NB602_692.out, NB692_602.out, NB626_692.out, NB692_626.out, NB632_692.out, NB692_632.out, NB647_692.out, NB692_647.out, (bw_ HB)⟩)
          ·clear HO_627000 HO_633000 HO_648000 BK601 BK602 BK626 BK632 BK647 HB
           rintro ⟨v674, v679, v684, v687⟩ w200 ⟨HO675, HO680, HO685, HO688, HO_627000, HO_633000, HO_648000, BK601, BK602, BK626, BK632, BK647, HB⟩
           dsimp only at HO675 HO680 HO685 HO688 HO_627000 HO_633000 HO_648000
           have hHeld := hn5_ (bc0_ BK601.out) (bc1_ BK601.out) (bc2_ BK601.out) (bc0_ BK602.out) (bc1_ BK602.out)
           refine nj_ ?_
           refine one_ (i := 12) (N := some 20) (lz_ 15 8191) rfl rfl (one_of HT_.out (by kernel_rfl)) (by decide) (fun K hK => ?_)
           refine box_step ?hg (N := 20) ?hd (cs := #[.slice none 0 0, .int .i64 0, .string (⟨#[]⟩ : ByteArray)]) (t := 31) ?hr ?_; (case hd => rfl); (case hg => rfl); (case hr => first | (go_simp; done) | (go_simp; rfl))
           intro gb692 hg w201 hbox hb
           replace HO_627000 := rb_ HO_627000 hb
           replace HO_633000 := rb_ HO_633000 hb
           replace HO_648000 := rb_ HO_648000 hb
           replace HO675 := rb_ HO675 hb
           replace HO680 := rb_ HO680 hb
           replace HO685 := rb_ HO685 hb
           replace HO688 := rb_ HO688 hb
           have BK692 := Aside0.mk hbox
           have GW692 := gg_ hg HB
           have GE692 := GW692
           replace HB := ss_ HB hb
           have NB601_692 := nla_ hg BK601
           have NB692_601 := nga_ hg BK601
           replace BK601 := kl_ BK601 hb
           have NB602_692 := nla_ hg BK602
           have NB692_602 := nga_ hg BK602
           replace BK602 := kl_ BK602 hb
           have NB626_692 := nla_ hg BK626
           have NB692_626 := nga_ hg BK626
           replace BK626 := kl_ BK626 hb
           have NB632_692 := nla_ hg BK632
           have NB692_632 := nga_ hg BK632
           replace BK632 := kl_ BK632 hb
           have NB647_692 := nla_ hg BK647
           have NB692_647 := nga_ hg BK647
           replace BK647 := kl_ BK647 hb
           clear hb hbox hg
           refine hK.out _ _ ⟨bc0_ BK601.out, bc1_ BK601.out, bc2_ BK601.out, bc0_ BK602.out, bc1_ BK602.out⟩ (fun hHeld => ?_)
           clear hK K
           refine no_ 20 ?_
           exact nj_ (hJ1_3_5_7_8_12 (v674, v679, v684, v687, gb692) _ ⟨hHeld, (kr_ HO675.out), (kr_ HO680.out), (kr_ HO685.out), (kr_ HO688.out), (kr_ HO_627000.out), (kr_ HO_633000.out), (kr_ HO_648000.out), (kb_ BK601.out), (kb_ BK602.out), (kb_ BK626.out), (kb_ BK632.out), (kb_ BK647.out), (kb_ BK692.out), GW692.out, GE692.out, NB601_692.out, NB692_601.out, NB602_692.out, NB692_602.out, NB626_692.out, NB692_626.out, NB632_692.out, NB692_632.out, NB647_692.out, NB692_647.out, (bw_ HB)⟩)
         rintro ⟨v674, v679, v684, v687, gb692⟩ w201 ⟨hS_, h0_, h1_, h2_, h3_, h4_, h5_, h6_, h7_, h8_, h9_, h10_, h11_, h12_, h13_, h14_, h15_, h16_, h17_, h18_, h19_, h20_, h21_, h22_, h23_, h24_, h25_⟩
         have n0_ : Aside0 (Kd.R Kd.string 9 w201 w.heap.size (fun k_ => some k_ ≠ (v684 : Value).ownBlock ∧ some k_ ≠ (v687 : Value).ownBlock ∧ some k_ ≠ (.slice Ao70 t620.length co70 : Value).ownBlock ∧ some k_ ≠ (.slice Ao78 t664.length co78 : Value).ownBlock ∧ some k_ ≠ (.slice Ao92 t641.length co92 : Value).ownBlock) v674 t673) := ⟨h0_⟩
         have n1_ : Aside0 (Kd.R k28 28 w201 w.heap.size (fun _ => True) v679 t678) := ⟨h1_⟩
         have n2_ : Aside0 (Kd.R Kd.string 9 w201 w.heap.size (fun k_ => some k_ ≠ (v674 : Value).ownBlock ∧ some k_ ≠ (v687 : Value).ownBlock ∧ some k_ ≠ (.slice Ao70 t620.length co70 : Value).ownBlock ∧ some k_ ≠ (.slice Ao78 t664.length co78 : Value).ownBlock ∧ some k_ ≠ (.slice Ao92 t641.length co92 : Value).ownBlock) v684 t683) := ⟨h2_⟩
         have n3_ : Aside0 (Kd.R Kd.string 9 w201 w.heap.size (fun k_ => some k_ ≠ (v674 : Value).ownBlock ∧ some k_ ≠ (v684 : Value).ownBlock ∧ some k_ ≠ (.slice Ao70 t620.length co70 : Value).ownBlock ∧ some k_ ≠ (.slice Ao78 t664.length co78 : Value).ownBlock ∧ some k_ ≠ (.slice Ao92 t641.length co92 : Value).ownBlock) v687 t686) := ⟨h3_⟩
         have n4_ : Aside0 (Kd.R Kd.string 9 w201 w.heap.size (fun k_ => some k_ ≠ (v674 : Value).ownBlock ∧ some k_ ≠ (v684 : Value).ownBlock ∧ some k_ ≠ (v687 : Value).ownBlock ∧ some k_ ≠ (.slice Ao78 t664.length co78 : Value).ownBlock ∧ some k_ ≠ (.slice Ao92 t641.length co92 : Value).ownBlock) (.slice Ao70 t620.length co70) t620) := ⟨h4_⟩
         have n5_ : Aside0 (Kd.R Kd.string 9 w201 w.heap.size (fun k_ => some k_ ≠ (v674 : Value).ownBlock ∧ some k_ ≠ (v684 : Value).ownBlock ∧ some k_ ≠ (v687 : Value).ownBlock ∧ some k_ ≠ (.slice Ao70 t620.length co70 : Value).ownBlock ∧ some k_ ≠ (.slice Ao92 t641.length co92 : Value).ownBlock) (.slice Ao78 t664.length co78) t664) := ⟨h5_⟩
         have n6_ : Aside0 (Kd.R Kd.string 9 w201 w.heap.size (fun k_ => some k_ ≠ (v674 : Value).ownBlock ∧ some k_ ≠ (v684 : Value).ownBlock ∧ some k_ ≠ (v687 : Value).ownBlock ∧ some k_ ≠ (.slice Ao70 t620.length co70 : Value).ownBlock ∧ some k_ ≠ (.slice Ao78 t664.length co78 : Value).ownBlock) (.slice Ao92 t641.length co92) t671) := ⟨h6_⟩
         have n7_ : Aside0 (w201.heap[gb601]? = some (.cells #[.slice A0_0 l0_0.length c0_0, .int .i64 a0_1, .string a0_2] 49 (0, 0))) := ⟨h7_⟩
         have n8_ : Aside0 (w201.heap[gb602]? = some (.cells #[.int .i64 a2_0, .string a2_1] 47 (0, 0))) := ⟨h8_⟩
         have n9_ : Aside0 (w201.heap[gb626]? = some (.cells #[.slice Ao70 t620.length co70, .int .i64 t623, .string t624] 31 (0, 0))) := ⟨h9_⟩
         have n10_ : Aside0 (w201.heap[gb632]? = some (.cells #[.slice Ao78 t664.length co78, .int .i64 t630, .string t631] 31 (0, 0))) := ⟨h10_⟩
         have n11_ : Aside0 (w201.heap[gb647]? = some (.cells #[.slice Ao92 t641.length co92, .int .i64 t644, .string t645] 31 (0, 0))) := ⟨h11_⟩
         have n12_ : Aside0 (w201.heap[gb692]? = some (.cells #[.slice none 0 0, .int .i64 0, .string (⟨#[]⟩ : ByteArray)] 31 (0, 0))) := ⟨h12_⟩
         have n13_ : Aside0 (w.heap.size ≤ gb692) := ⟨h13_⟩
         have n14_ : Aside0 (w.heap.size ≤ gb692) := ⟨h14_⟩
         have n15_ : Aside0 (gb601 ≠ gb692) := ⟨h15_⟩
         have n16_ : Aside0 (gb692 ≠ gb601) := ⟨h16_⟩
         have n17_ : Aside0 (gb602 ≠ gb692) := ⟨h17_⟩
         have n18_ : Aside0 (gb692 ≠ gb602) := ⟨h18_⟩
         have n19_ : Aside0 (gb626 ≠ gb692) := ⟨h19_⟩
         have n20_ : Aside0 (gb692 ≠ gb626) := ⟨h20_⟩
         have n21_ : Aside0 (gb632 ≠ gb692) := ⟨h21_⟩
         have n22_ : Aside0 (gb692 ≠ gb632) := ⟨h22_⟩
         have n23_ : Aside0 (gb647 ≠ gb692) := ⟨h23_⟩
         have n24_ : Aside0 (gb692 ≠ gb647) := ⟨h24_⟩
         have n25_ : Aside0 (Below w.heap.size w w201) := ⟨h25_⟩
         clear HO_627000
         clear HO_633000
         clear HO_648000
         clear BK601
         clear BK602
         clear BK626
         clear BK632
         clear BK647
         clear HB
         clear h0_ h1_ h2_ h3_ h4_ h5_ h6_ h7_ h8_ h9_ h10_ h11_ h12_ h13_ h14_ h15_ h16_ h17_ h18_ h19_ h20_ h21_ h22_ h23_ h24_ h25_
         have HO675 := n0_
         have HO680 := n1_
         have HO685 := n2_
         have HO688 := n3_
         have HO_627000 := n4_
         have HO_633000 := n5_
         have HO_648000 := n6_
         have BK601 := n7_
         have BK602 := n8_
         have BK626 := n9_
         have BK632 := n10_
         have BK647 := n11_
         have BK692 := n12_
         have GW692 := n13_
         have GE692 := n14_
         have NB601_692 := n15_
         have NB692_601 := n16_
         have NB602_692 := n17_
         have NB692_602 := n18_
         have NB626_692 := n19_
         have NB692_626 := n20_
         have NB632_692 := n21_
         have NB692_632 := n22_
         have NB647_692 := n23_
         have NB692_647 := n24_
         have HB := n25_
         clear n0_ n1_ n2_ n3_ n4_ n5_ n6_ n7_ n8_ n9_ n10_ n11_ n12_ n13_ n14_ n15_ n16_ n17_ n18_ n19_ n20_ n21_ n22_ n23_ n24_ n25_
         have hHeld : w201.cell? ⟨gb601, 0, none⟩ = some (.slice A0_0 l0_0.length c0_0) ∧ w201.cell? ⟨gb601, 1, none⟩ = some (.int .i64 a0_1) ∧ w201.cell? ⟨gb601, 2, none⟩ = some (.string a0_2) ∧ w201.cell? ⟨gb602, 0, none⟩ = some (.int .i64 a2_0) ∧ w201.cell? ⟨gb602, 1, none⟩ = some (.string a2_1) := hS_
         obtain ⟨Ao202, co202, eo202⟩ := Kd.R_slice HO688.out
         (first | subst eo202 | (injection eo202 with f1_ f2_ f3_; have f4_ := f1_.symm; have f5_ := f3_.symm; clear f1_ f2_ f3_; subst f4_; subst f5_))
         refine nj_ ?_
         refine one_ (i := 13) (N := none) (lz_ 15 16383) rfl rfl (one_of HT_.out (by kernel_rfl)) (by decide) (fun K hK => ?_)
         have hs203 := bc0_ BK692.out
         have hfs203 := blk_frozen BK692.out 0
         have hns203_0 := NB601_692.out
         have hns203_1 := NB602_692.out
         have hns203_2 := NB626_692.out
         have hns203_3 := NB632_692.out
         have hns203_4 := NB647_692.out
         have hms203_0 := NB692_601.out
         have hms203_1 := NB692_602.out
         have hms203_2 := NB692_626.out
         have hms203_3 := NB692_632.out
         have hms203_4 := NB692_647.out
         have hs204 := bc1_ BK692.out
         have hfs204 := blk_frozen BK692.out 1
         have hns204_0 := NB601_692.out
         have hns204_1 := NB602_692.out
         have hns204_2 := NB626_692.out
         have hns204_3 := NB632_692.out
         have hns204_4 := NB647_692.out
         have hms204_0 := NB692_601.out
         have hms204_1 := NB692_602.out
         have hms204_2 := NB692_626.out
         have hms204_3 := NB692_632.out
         have hms204_4 := NB692_647.out
         have hs205 := bc2_ BK692.out
         have hfs205 := blk_frozen BK692.out 2
         have hns205_0 := NB601_692.out
         have hns205_1 := NB602_692.out
         have hns205_2 := NB626_692.out
         have hns205_3 := NB632_692.out
         have hns205_4 := NB647_692.out
         have hms205_0 := NB692_601.out
         have hms205_1 := NB692_602.out
         have hms205_2 := NB692_626.out
         have hms205_3 := NB692_632.out
         have hms205_4 := NB692_647.out
         refine skip_ (w1 := ?_) (by rfl) rfl ?_ ?_
         rotate_left
         ·go_simp
          rfl
         refine hK.out _ _ ⟨((cell_far (p := ⟨gb692, _, none⟩) NB601_692.out _).trans (((cell_far (p := ⟨gb692, _, none⟩) NB601_692.out _).trans (((cell_far (p := ⟨gb692, _, none⟩) NB601_692.out _).trans (hHeld.1)))))), ((cell_far (p := ⟨gb692, _, none⟩) NB601_692.out _).trans (((cell_far (p := ⟨gb692, _, none⟩) NB601_692.out _).trans (((cell_far (p := ⟨gb692, _, none⟩) NB601_692.out _).trans (hHeld.2.1)))))), ((cell_far (p := ⟨gb692, _, none⟩) NB601_692.out _).trans (((cell_far (p := ⟨gb692, _, none⟩) NB601_692.out _).trans (((cell_far (p := ⟨gb692, _, none⟩) NB601_692.out _).trans (hHeld.2.2.1)))))), ((cell_far (p := ⟨gb692, _, none⟩) NB602_692.out _).trans (((cell_far (p := ⟨gb692, _, none⟩) NB602_692.out _).trans (((cell_far (p := ⟨gb692, _, none⟩) NB602_692.out _).trans (hHeld.2.2.2.1)))))), ((cell_far (p := ⟨gb692, _, none⟩) NB602_692.out _).trans (((cell_far (p := ⟨gb692, _, none⟩) NB602_692.out _).trans (((cell_far (p := ⟨gb692, _, none⟩) NB602_692.out _).trans (hHeld.2.2.2.2))))))⟩ (fun hHeld => ?_)
         clear hK K
         refine pt_ 14 21 32767 ?_
         refine done_ (done_of HT_.out (by kernel_rfl)) ?_
         go_upto_region 42 with (fail)
         go_cut [146] (fun v146 wc => ∃ (kq : Nat) (x146_181 : Bool), v146 = .bool x146_181 ∧ Aside0 (laws_FnExactExtend.j2 kq t670 x146_181 t671 t644 t645 = some r) ∧ Aside0 (kq ≤ kj130) ∧ Aside0 (Kd.R Kd.string 9 wc w.heap.size (fun k_ => some k_ ≠ ((.slice Ao78 t664.length co78) : Value).ownBlock ∧ some k_ ≠ ((.slice Ao92 t641.length co92) : Value).ownBlock ∧ some k_ ≠ ((.slice Ao202 t686.length co202) : Value).ownBlock) (.slice Ao70 t620.length co70) t620) ∧ Aside0 (Kd.R Kd.string 9 wc w.heap.size (fun k_ => some k_ ≠ ((.slice Ao70 t620.length co70) : Value).ownBlock ∧ some k_ ≠ ((.slice Ao92 t641.length co92) : Value).ownBlock ∧ some k_ ≠ ((.slice Ao202 t686.length co202) : Value).ownBlock) (.slice Ao78 t664.length co78) t664) ∧ Aside0 (Kd.R Kd.string 9 wc w.heap.size (fun k_ => some k_ ≠ ((.slice Ao70 t620.length co70) : Value).ownBlock ∧ some k_ ≠ ((.slice Ao78 t664.length co78) : Value).ownBlock ∧ some k_ ≠ ((.slice Ao202 t686.length co202) : Value).ownBlock) (.slice Ao92 t641.length co92) t671) ∧ Aside0 (Kd.R Kd.string 9 wc w.heap.size (fun k_ => some k_ ≠ ((.slice Ao70 t620.length co70) : Value).ownBlock ∧ some k_ ≠ ((.slice Ao78 t664.length co78) : Value).ownBlock ∧ some k_ ≠ ((.slice Ao92 t641.length co92) : Value).ownBlock) (.slice Ao202 t686.length co202) t686) ∧ Aside0 (wc.heap[gb601]? = some (.cells #[(.slice A0_0 l0_0.length c0_0), .int .i64 a0_1, .string a0_2] 49 (0, 0))) ∧ Aside0 (wc.heap[gb602]? = some (.cells #[.int .i64 a2_0, .string a2_1] 47 (0, 0))) ∧ Aside0 (wc.heap[gb626]? = some (.cells #[(.slice Ao70 t620.length co70), .int .i64 t623, .string t624] 31 (0, 0))) ∧ Aside0 (wc.heap[gb632]? = some (.cells #[(.slice Ao78 t664.length co78), .int .i64 t630, .string t631] 31 (0, 0))) ∧ Aside0 (wc.heap[gb647]? = some (.cells #[(.slice Ao92 t641.length co92), .int .i64 t644, .string t645] 31 (0, 0))) ∧ Aside0 (wc.heap[gb692]? = some (.cells #[(.slice Ao202 t686.length co202), .int .i64 t689, .string t690] 31 (0, 0))) ∧ Aside0 (Below w.heap.size w wc))
         case first =>
          have H := HC182.out
          clear HC182
          replace H := bi_ H; obtain ⟨t693, A206, H⟩ := H
          replace H := itb_ H; obtain ⟨rfl, H⟩ | ⟨rfl, H⟩ := H
          ·have H' := Aside0.mk H
           clear H
           have hnb208 := NB692_601.out
           have hnc208 := NB601_692.out
           have hnb209 := NB692_602.out
           have hnc209 := NB602_692.out
           have hnb210 := NB692_626.out
           have hnc210 := NB626_692.out
           have hnb211 := NB692_632.out
           have hnc211 := NB632_692.out
           have hnb212 := NB692_647.out
           have hnc212 := NB647_692.out
           have hz213 := cz3_ BK692
           have hnb214 := NB626_601.out
           have hnc214 := NB601_626.out
           have hnb215 := NB626_602.out
           have hnc215 := NB602_626.out
           have hnb216 := NB626_632.out
           have hnc216 := NB632_626.out
           have hnb217 := NB626_647.out
           have hnc217 := NB647_626.out
           have hz218 := cz3_ BK626
           go_wp2_with (first | ((with_reducible refine gq_ 31 140 ?_); refine gc_ 140 Try.func31 (laws_eqLog.calls kj130 _ _ t686 t689 t690 _ _ t620 t623 t624 true _ (chf_ HO688 BK692) (cl_ HO688) (chf_ HO_627000 BK692) (cl_ HO_627000) A206.out) ?_; rintro e w219 ⟨rfl, hb⟩; refine ⟨_, rfl, ?_⟩; replace HO_627000 := rbf_ HO_627000 BK692 hb; replace HO_633000 := rbf_ HO_633000 BK692 hb; replace HO_648000 := rbf_ HO_648000 BK692 hb; replace HO675 := rbf_ HO675 BK692 hb; replace HO680 := rbf_ HO680 BK692 hb; replace HO685 := rbf_ HO685 BK692 hb; replace HO688 := rbf_ HO688 BK692 hb; replace BK601 := kp_ BK601 hb; replace BK602 := kp_ BK602 hb; replace BK626 := kp_ BK626 hb; replace BK632 := kp_ BK632 hb; replace BK647 := kp_ BK647 hb; replace BK692 := kp_ BK692 hb; replace HB := ss_ HB hb; clear hb))
           go_meet
           case rel => exact ⟨_, ((t691 != t625)), e1_, H', ⟨by have := HJ49.out; have := HJ130.out; first | omega | exact Nat.le_refl _⟩, ⟨by (try simp only [hl633000_130]); (with_reducible repeat (first | apply Kd.R_alloc | apply Kd.R_drewN | apply Kd.R_drew)); exact Kd.R_mono HO_627000.out (fun _ hk => ⟨hk.2.2.2.1, ⟨hk.2.2.2.2, hk.2.2.1⟩⟩)⟩, ⟨by (try simp only [hl633000_130]); (with_reducible repeat (first | apply Kd.R_alloc | apply Kd.R_drewN | apply Kd.R_drew)); exact Kd.R_mono HO_633000.out (fun _ hk => ⟨hk.2.2.2.1, ⟨hk.2.2.2.2, hk.2.2.1⟩⟩)⟩, ⟨by (try simp only [hl633000_130]); (with_reducible repeat (first | apply Kd.R_alloc | apply Kd.R_drewN | apply Kd.R_drew)); exact Kd.R_mono HO_648000.out (fun _ hk => ⟨hk.2.2.2.1, ⟨hk.2.2.2.2, hk.2.2.1⟩⟩)⟩, ⟨by (try simp only [hl633000_130]); (with_reducible repeat (first | apply Kd.R_alloc | apply Kd.R_drewN | apply Kd.R_drew)); exact Kd.R_mono HO688.out (fun _ hk => ⟨hk.2.2.1, ⟨hk.2.2.2.1, hk.2.2.2.2⟩⟩)⟩, ⟨by (try simp only [hl633000_130]); refine kb_ ?_; exact BK601.out⟩, ⟨by (try simp only [hl633000_130]); refine kb_ ?_; exact BK602.out⟩, ⟨by (try simp only [hl633000_130]); refine kb_ ?_; exact BK626.out⟩, ⟨by (try simp only [hl633000_130]); refine kb_ ?_; exact BK632.out⟩, ⟨by (try simp only [hl633000_130]); refine kb_ ?_; exact BK647.out⟩, ⟨by (try simp only [hl633000_130]); refine kb_ ?_; exact BK692.out⟩, ⟨bw_ HB⟩⟩
          ·have H' := Aside0.mk H
           clear H
           have hnb220 := NB692_601.out
           have hnc220 := NB601_692.out
           have hnb221 := NB692_602.out
           have hnc221 := NB602_692.out
           have hnb222 := NB692_626.out
           have hnc222 := NB626_692.out
           have hnb223 := NB692_632.out
           have hnc223 := NB632_692.out
           have hnb224 := NB692_647.out
           have hnc224 := NB647_692.out
           have hz225 := cz3_ BK692
           have hnb226 := NB626_601.out
           have hnc226 := NB601_626.out
           have hnb227 := NB626_602.out
           have hnc227 := NB602_626.out
           have hnb228 := NB626_632.out
           have hnc228 := NB632_626.out
           have hnb229 := NB626_647.out
           have hnc229 := NB647_626.out
           have hz230 := cz3_ BK626
           go_wp2_with (first | ((with_reducible refine gq_ 31 140 ?_); refine gc_ 140 Try.func31 (laws_eqLog.calls kj130 _ _ t686 t689 t690 _ _ t620 t623 t624 false _ (chf_ HO688 BK692) (cl_ HO688) (chf_ HO_627000 BK692) (cl_ HO_627000) A206.out) ?_; rintro e w231 ⟨rfl, hb⟩; refine ⟨_, rfl, ?_⟩; replace HO_627000 := rbf_ HO_627000 BK692 hb; replace HO_633000 := rbf_ HO_633000 BK692 hb; replace HO_648000 := rbf_ HO_648000 BK692 hb; replace HO675 := rbf_ HO675 BK692 hb; replace HO680 := rbf_ HO680 BK692 hb; replace HO685 := rbf_ HO685 BK692 hb; replace HO688 := rbf_ HO688 BK692 hb; replace BK601 := kp_ BK601 hb; replace BK602 := kp_ BK602 hb; replace BK626 := kp_ BK626 hb; replace BK632 := kp_ BK632 hb; replace BK647 := kp_ BK647 hb; replace BK692 := kp_ BK692 hb; replace HB := ss_ HB hb; clear hb))
           go_meet
           case rel => exact ⟨_, (true), e1_, H', ⟨by have := HJ49.out; have := HJ130.out; first | omega | exact Nat.le_refl _⟩, ⟨by (try simp only [hl633000_130]); (with_reducible repeat (first | apply Kd.R_alloc | apply Kd.R_drewN | apply Kd.R_drew)); exact Kd.R_mono HO_627000.out (fun _ hk => ⟨hk.2.2.2.1, ⟨hk.2.2.2.2, hk.2.2.1⟩⟩)⟩, ⟨by (try simp only [hl633000_130]); (with_reducible repeat (first | apply Kd.R_alloc | apply Kd.R_drewN | apply Kd.R_drew)); exact Kd.R_mono HO_633000.out (fun _ hk => ⟨hk.2.2.2.1, ⟨hk.2.2.2.2, hk.2.2.1⟩⟩)⟩, ⟨by (try simp only [hl633000_130]); (with_reducible repeat (first | apply Kd.R_alloc | apply Kd.R_drewN | apply Kd.R_drew)); exact Kd.R_mono HO_648000.out (fun _ hk => ⟨hk.2.2.2.1, ⟨hk.2.2.2.2, hk.2.2.1⟩⟩)⟩, ⟨by (try simp only [hl633000_130]); (with_reducible repeat (first | apply Kd.R_alloc | apply Kd.R_drewN | apply Kd.R_drew)); exact Kd.R_mono HO688.out (fun _ hk => ⟨hk.2.2.1, ⟨hk.2.2.2.1, hk.2.2.2.2⟩⟩)⟩, ⟨by (try simp only [hl633000_130]); refine kb_ ?_; exact BK601.out⟩, ⟨by (try simp only [hl633000_130]); refine kb_ ?_; exact BK602.out⟩, ⟨by (try simp only [hl633000_130]); refine kb_ ?_; exact BK626.out⟩, ⟨by (try simp only [hl633000_130]); refine kb_ ?_; exact BK632.out⟩, ⟨by (try simp only [hl633000_130]); refine kb_ ?_; exact BK647.out⟩, ⟨by (try simp only [hl633000_130]); refine kb_ ?_; exact BK692.out⟩, ⟨bw_ HB⟩⟩
         case rest =>
          clear HC182
          try clear c1
          try clear c2
          try clear p2
          try clear c3
          try clear c13
          try clear c31
          obtain ⟨kq, x146_181, rfl, HA, HJ181, HO_627000, HO_633000, HO_648000, HO_693000, BK601, BK602, BK626, BK632, BK647, BK692, HB⟩ := hcut
          have hl648000_181 := (Kd.R_reads' HO_648000.out).1
          rw [hl648000_181] at HO_648000
          (try simp only [hl648000_181])
          (try simp only [hl648000_181] at BK601)
          (try simp only [hl648000_181] at BK602)
          (try simp only [hl648000_181] at BK626)
          (try simp only [hl648000_181] at BK632)
          (try simp only [hl648000_181] at BK647)
          (try simp only [hl648000_181] at BK692)
          (try simp only [hl648000_181] at HO_627000)
          (try simp only [hl648000_181] at HO_633000)
          (try simp only [hl648000_181] at HO_693000)
          cases kq with
          | zero => exact absurd HA.out (by simp [laws_FnExactExtend.j2])
          | succ kj181 =>
           have H := HA.out
           clear HA
           simp only [laws_FnExactExtend.j2] at H
           replace H := inb_ H; obtain ⟨rfl, H⟩ := H
           replace H := bi_ H; obtain ⟨t694, A233, H⟩ := H
           replace H := ind_ H; obtain ⟨c234b0, H⟩ := H
           replace H := ip_ H; obtain ⟨c235, H⟩ := H
           have c235b0 : (t694 == t670) = true := beq_iff_eq.mpr c235
           have c235b1 : (t694 != t670) = false := bne_eq_false_iff_eq.mpr c235
           clear c235
           obtain rfl := Option.some.inj H
           have hnb236 := NB647_601.out
           have hnc236 := NB601_647.out
           have hnb237 := NB647_602.out
           have hnc237 := NB602_647.out
           have hnb238 := NB647_626.out
           have hnc238 := NB626_647.out
           have hnb239 := NB647_632.out
           have hnc239 := NB632_647.out
           have hnb240 := NB647_692.out
           have hnc240 := NB692_647.out
           have hz241 := cz3_ BK647
           go_wp2_with (first | ((with_reducible refine gq_ 37 149 ?_); refine gc_ 149 Try.func37 (laws_heldLog.calls kj181 _ _ t671 t644 t645 1 t694 _ (ch_ HO_648000) (cl_ HO_648000) A233.out) ?_; rintro e w242 ⟨rfl, hb⟩; refine ⟨_, rfl, ?_⟩; replace HO_627000 := rb_ HO_627000 hb; replace HO_633000 := rb_ HO_633000 hb; replace HO_648000 := rb_ HO_648000 hb; replace HO_693000 := rb_ HO_693000 hb; replace BK601 := kl_ BK601 hb; replace BK602 := kl_ BK602 hb; replace BK626 := kl_ BK626 hb; replace BK632 := kl_ BK632 hb; replace BK647 := kl_ BK647 hb; replace BK692 := kl_ BK692 hb; replace HB := ss_ HB hb; clear hb))
           go_ret
           exact ⟨e2_, bw_ HB⟩
end Go.Proofs.Ytjnnglphdaemaaa.Q
end

section
/- The row of the law FnExactExtend out of its pure statement and the printed walk. -/
namespace Go.Proofs.Ytjnnglphdaemaaa.Q
open Go.RowKit Go.Proofs.Ytjnnglphdaemaaa.XO Go.Proofs.YtjnnglphdaemaaaW.PrintWords Go.ChangeShapes Go.WideShapes Go.ChangeAt
set_option linter.unusedVariables false
set_option linter.unusedSimpArgs false
def laws_FnExactExtend.Pure : Prop := ∀ (x0 : S49) (x1 : List (S47)) (x2 : S47) (x3 : List ByteArray), G49 x0 → (x1.length ≤ 9223372036854775807 ∧ ∀ y0 ∈ x1, G47 y0) → G47 x2 → (x3.length ≤ 9223372036854775807 ∧ ∀ y0 ∈ x3, y0.size ≤ 9223372036854775807) → ∃ k, laws_FnExactExtend.f k x0.f0 x0.f1.f0 x0.f1.f1 x1 x2.f0 x2.f1 x3 = some true
namespace RFnExactExtend
theorem own : ownKnob Try.prog.godebug = none := by kernel_rfl
theorem laidOut : laidOutB Try.prog = true := by kernel_rfl
set_option maxRecDepth 100000 in
theorem lifted (PU : laws_FnExactExtend.Pure) (os : Os) (started : os.Started) (H : Type) (enc : TypeId × Value → H) :
    ReturnsInHanded {} Try.checked os 5 .any (Rows.fnExactExtendSpec.pre6 enc Try.prog Try.f5 Rows.fnExactExtendRow.domain false) (Rows.fnExactExtendSpec.post enc Try.prog Try.f5 false true false false) := by
  refine returnsInHanded_of_change_sized (C := Try.checked) own started (by kernel_rfl) Try.func5
    (ChangeSpec.witness6 (enc := enc) (C := Try.checked) false ⟨#[], #[.agg #[.slice none 0 0, .int .i64 0, .string ByteArray.empty], .slice none 0 0, .agg #[.int .i64 0, .string ByteArray.empty], .slice none 0 0], []⟩ 8 (by kernel_rfl) (by kernel_rfl) (by kernel_rfl) (by kernel_rfl)) ?_
  intro W base args ds gs before hval0 hW hcnd hsz0 _
  have hval : ∀ (j : Nat) t v, Try.f5.params[j]? = some t → args[j]? = some v → Value.okWide Try.prog W .any base t v := hval0
  have hW' := hW
  obtain ⟨p, q, hA0, hV, rfl, hfz, hnd⟩ := hW
  have hA : DataW.TrodAll enc Try.prog W 0 (fun _ => true) true Try.f5.params.toList args.toList ds p := hA0
  rw [Try.params5] at hA hval
  obtain ⟨v0, vs0, d0, ds0, p0, q0, hargs, rfl, rfl, h0, r0⟩ := trodAll_cons hA
  obtain ⟨v1, vs1, d1, ds1, p1, q1, rfl, rfl, rfl, h1, r1⟩ := trodAll_cons r0
  obtain ⟨v2, vs2, d2, ds2, p2, q2, rfl, rfl, rfl, h2, r2⟩ := trodAll_cons r1
  obtain ⟨v3, vs3, d3, ds3, p3, q3, rfl, rfl, rfl, h3, r3⟩ := trodAll_cons r2
  obtain ⟨rfl, rfl, rfl⟩ := trodAll_nil r3
  obtain rfl : args = #[v0, v1, v2, v3] := by cases args; simp_all
  obtain ⟨rfl, rfl⟩ := trodVars_none hV
  have kk0 := h0
  have lt0 : ∀ x ∈ p0, x.block < W.heap.size := by obtain ⟨m, hm⟩ := kk0; exact DataW.trod_lt m _ _ _ hm
  obtain ⟨cs0, rfl, _⟩ := okWide_struct Try.underlying49 (hval 0 49 v0 rfl rfl)
  obtain ⟨fu0, hf0⟩ := h0
  obtain ⟨x0, hK0, g0⟩ := opens49 hf0
  obtain ⟨A0_0, c0_0, he0, hc0_0, hr0_0⟩ := k49_open hK0
  obtain rfl : cs0 = #[.slice A0_0 x0.f0.length c0_0, .int .i64 x0.f1.f0, .string x0.f1.f1] := by cases cs0; simpa [Value.cells] using he0
  have kk1 := h1
  have lt1 : ∀ x ∈ p1, x.block < W.heap.size := by obtain ⟨m, hm⟩ := kk1; exact DataW.trod_lt m _ _ _ hm
  obtain ⟨A1, len1, c1, rfl⟩ := okWide_slice Try.underlying50 (hval 1 50 v1 rfl rfl)
  obtain ⟨fu1, hf1⟩ := h1
  obtain ⟨x1, ⟨A1', c1', he1, hc1, hr1⟩, g1⟩ := (opens_slice Try.underlying50 (by kernel_rfl) opens47) hf1
  obtain ⟨rfl, rfl, rfl⟩ : A1 = A1' ∧ len1 = x1.length ∧ c1 = c1' := by simpa [Value.cells] using he1
  have kk2 := h2
  have lt2 : ∀ x ∈ p2, x.block < W.heap.size := by obtain ⟨m, hm⟩ := kk2; exact DataW.trod_lt m _ _ _ hm
  obtain ⟨cs2, rfl, _⟩ := okWide_struct Try.underlying47 (hval 2 47 v2 rfl rfl)
  obtain ⟨fu2, hf2⟩ := h2
  obtain ⟨x2, hK2, g2⟩ := opens47 hf2
  have he2 := k47_open hK2
  obtain rfl : cs2 = #[.int .i64 x2.f0, .string x2.f1] := by cases cs2; simpa [Value.cells] using he2
  have kk3 := h3
  have lt3 : ∀ x ∈ p3, x.block < W.heap.size := by obtain ⟨m, hm⟩ := kk3; exact DataW.trod_lt m _ _ _ hm
  obtain ⟨A3, len3, c3, rfl⟩ := okWide_slice Try.underlying24 (hval 3 24 v3 rfl rfl)
  obtain ⟨fu3, hf3⟩ := h3
  obtain ⟨x3, ⟨A3', c3', he3, hc3, hr3⟩, g3⟩ := (opens_slice Try.underlying24 (by kernel_rfl) (opens_string Try.underlying9)) hf3
  obtain ⟨rfl, rfl, rfl⟩ : A3 = A3' ∧ len3 = x3.length ∧ c3 = c3' := by simpa [Value.cells] using he3
  clear hA0 hval0 hsz0
  obtain ⟨k, hp⟩ := PU x0 x1 x2 x3 g0 g1 g2 g3
  refine (laws_FnExactExtend.calls k _ _ x0.f0 x0.f1.f0 x0.f1.f1 _ _ x1 x2.f0 x2.f1 _ _ x3 true W hr0_0 hc0_0 hr1 hc1 hr3 hc3 hp).mono fun e W' ⟨he, bel0⟩ => ?_
  have bel : Below W.heap.size W W' := bel0
  subst he
  exact ⟨_, rfl, _, _, _, [], _, [], hW', trodAll_mk1 (shut_bool Try.underlying4 _), (trodAll_cons_mk (Below.trod laidOut (by kernel_rfl) (of_decide_eq_true (by kernel_rfl)) kk0 bel lt0) (trodAll_cons_mk (Below.trod laidOut (by kernel_rfl) (of_decide_eq_true (by kernel_rfl)) kk1 bel lt1) (trodAll_cons_mk (Below.trod laidOut (by kernel_rfl) (of_decide_eq_true (by kernel_rfl)) kk2 bel lt2) (trodAll_cons_mk (Below.trod laidOut (by kernel_rfl) (of_decide_eq_true (by kernel_rfl)) kk3 bel lt3) trodAll_mk0)))), rfl, bel.frame _, fun h => by cases h⟩
theorem over (PU : laws_FnExactExtend.Pure) : Rows.fnExactExtendRow.holds Try.pinned (OpenSpec.ofChange Rows.fnExactExtendSpec) :=
  OpenClaim.holds_of_wide 5 Try.f5 rfl rfl rfl rfl rfl rfl rfl ⟨rfl, rfl, rfl, rfl, rfl⟩ rfl rfl rfl rfl rfl (by kernel_rfl) Try.func5 (by kernel_rfl)
    (of_decide_eq_true (by kernel_rfl)) (by unfold Func.isWrapper; first | (rw [if_pos (by decide +kernel)]; kernel_rfl) | (rw [if_neg (by decide +kernel)]; exact ⟨rfl, rfl⟩))
    (fun os started H enc _ => lifted PU os started H enc)
end RFnExactExtend
theorem FnExactExtend_row (PU : laws_FnExactExtend.Pure) : Rows.FnExactExtendSaid := RFnExactExtend.over PU
end Go.Proofs.Ytjnnglphdaemaaa.Q
end
