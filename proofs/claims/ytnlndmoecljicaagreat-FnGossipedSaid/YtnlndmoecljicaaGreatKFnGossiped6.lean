-- Joined and shortened by a program of this session (wip/tools/shakecopy.py): the words of the print, texts of pp.sh and of mine.
import Derived.Test.YtnlndmoecljicaaGreatKFnGossiped5
import Derived.Test.YtnlndmoecljicaaGreatRows
import Derived.WalkKit
import Derived.ProofKit
import Derived.OpenShut
import Derived.ShutString
import Derived.ChangeOld
import Derived.Below
import Derived.SizedLaws
import Derived.Carry
set_option linter.unusedVariables false
set_option linter.unusedSimpArgs false
section
namespace Go.Proofs.YtnlndmoecljicaaGreat.Q
open Go.Proofs.YtnlndmoecljicaaGreatW.PrintLast Go.Proofs.YtnlndmoecljicaaGreatW.PrintMore Go.Proofs.YtnlndmoecljicaaGreatW.PrintWords Go.RowKit
attribute [local go_sem] max2_int min2_int max_two min_two max_three min_three max_four min_four
set_option maxHeartbeats 8000000
set_option maxRecDepth 100000
section
attribute [local go_sem high] eqA37
theorem hsc_ {w w' : World} {a : Addr} {v : Value} (hb : Below w.heap.size w w') (h : w.cell? a = some v) : w'.cell? a = some v := (hb.cell (World.block_lt_of_cell? _ _ h)).trans h
theorem hs_ {w w' : World} {p q : Prop} (hb : Below w.heap.size w w') (h : p) (f : Below w.heap.size w w' → p → q := by intro b_; repeat (first | exact hsc_ b_ | refine And.imp (hsc_ b_) ?_)) : q := f hb h
def laws_FnGossiped.j0 : Nat → Int → List (S65) → List (S65) → Bool → Int → List ByteArray → Int → ByteArray → List Int → Int → Int → ByteArray → Option (Bool)
 | 0, _, _, _, _, _, _, _, _, _, _, _, _ => none
 | k + 1, x5, x6, x7, x53, x19000, x19001, x19002, x19003, x19004, x19005, x19006, x19007 => if x53 = true then (none) else (if (x6.length : Int) = 1 then (if 0 < (x6.length : Int) then ((impl_MsgOk.f k ((rd_T65 x6 0).f0) ((rd_T65 x6 0).f1) ((rd_T65 x6 0).f2) ((rd_T65 x6 0).f3.f0) ((rd_T65 x6 0).f3.f1) ((rd_T65 x6 0).f4) ((rd_T65 x6 0).f5)).bind fun t32 => (if t32 = true then (if (!(((rd_T65 x6 0).f3.f0) == x19006) || (!((((rd_T65 x6 0).f3.f1).toList) == x19007.toList))) = true then (none) else (if ((rd_T65 x6 0).f0) = 1 then (if ((rd_T65 x6 0).f2) = x5 then (if (x7.length : Int) = 0 then (some true) else (if 0 < (x7.length : Int) then ((impl_MsgOk.f k ((rd_T65 x7 0).f0) ((rd_T65 x7 0).f1) ((rd_T65 x7 0).f2) ((rd_T65 x7 0).f3.f0) ((rd_T65 x7 0).f3.f1) ((rd_T65 x7 0).f4) ((rd_T65 x7 0).f5)).bind fun t37 => (if t37 = true then (if ((rd_T65 x7 0).f4) = (x19001.length : Int) then (if (((rd_T65 x7 0).f3.f0) == x19006 && ((((rd_T65 x7 0).f3.f1).toList) == x19007.toList)) = true then (some (((rd_T65 x7 0).f0) == 2)) else (none)) else (none)) else (none))) else (none))) else (none)) else (none))) else (none))) else (none)) else (if (x7.length : Int) = 0 then (some true) else (if 0 < (x7.length : Int) then ((impl_MsgOk.f k ((rd_T65 x7 0).f0) ((rd_T65 x7 0).f1) ((rd_T65 x7 0).f2) ((rd_T65 x7 0).f3.f0) ((rd_T65 x7 0).f3.f1) ((rd_T65 x7 0).f4) ((rd_T65 x7 0).f5)).bind fun t42 => (if t42 = true then (if ((rd_T65 x7 0).f4) = (x19001.length : Int) then (if (((rd_T65 x7 0).f3.f0) == x19006 && ((((rd_T65 x7 0).f3.f1).toList) == x19007.toList)) = true then (some (((rd_T65 x7 0).f0) == 2)) else (none)) else (none)) else (none))) else (none))))
def laws_FnGossiped.f (k : Nat) (l0 : List Int) : Option (Bool) := (laws_big.f l0).bind fun t1 => (if t1 = true then (some true) else ((spec_DrawGossip.f k l0).bind fun bt2 => ((impl_Gossip.f k bt2.1 bt2.2.1 bt2.2.2.1 bt2.2.2.2.1 bt2.2.2.2.2.1 bt2.2.2.2.2.2.1 bt2.2.2.2.2.2.2.1 bt2.2.2.2.2.2.2.2.1 bt2.2.2.2.2.2.2.2.2.1 bt2.2.2.2.2.2.2.2.2.2).bind fun t19 => ((impl_AskFor.f k bt2.1 bt2.2.1 bt2.2.2.1 bt2.2.2.2.1 bt2.2.2.2.2.1 bt2.2.2.2.2.2.1 bt2.2.2.2.2.2.2.1 bt2.2.2.2.2.2.2.2.1 bt2.2.2.2.2.2.2.2.2.1 bt2.2.2.2.2.2.2.2.2.2).bind fun t22 => ((spec_Gossip.f k bt2.1 bt2.2.1 bt2.2.2.1 bt2.2.2.2.1 bt2.2.2.2.2.1 bt2.2.2.2.2.2.1 bt2.2.2.2.2.2.2.1 bt2.2.2.2.2.2.2.2.1 bt2.2.2.2.2.2.2.2.2.1 bt2.2.2.2.2.2.2.2.2.2).bind fun t25 => (if (t19.length : Int) = (t25.length : Int) then ((spec_AskFor.f k bt2.1 bt2.2.1 bt2.2.2.1 bt2.2.2.2.1 bt2.2.2.2.2.1 bt2.2.2.2.2.2.1 bt2.2.2.2.2.2.2.1 bt2.2.2.2.2.2.2.2.1 bt2.2.2.2.2.2.2.2.2.1 bt2.2.2.2.2.2.2.2.2.2).bind fun t28 => (if (t22.length : Int) = (t28.length : Int) then (if (t19.length : Int) > 1 then (laws_FnGossiped.j0 k bt2.2.2.2.2.2.2.2.2.2 t19 t22 true bt2.1 bt2.2.1 bt2.2.2.1 bt2.2.2.2.1 bt2.2.2.2.2.1 bt2.2.2.2.2.2.1 bt2.2.2.2.2.2.2.1 bt2.2.2.2.2.2.2.2.1) else (laws_FnGossiped.j0 k bt2.2.2.2.2.2.2.2.2.2 t19 t22 (decide ((t22.length : Int) > (t19.length : Int))) bt2.1 bt2.2.1 bt2.2.2.1 bt2.2.2.2.1 bt2.2.2.2.2.1 bt2.2.2.2.2.2.1 bt2.2.2.2.2.2.2.1 bt2.2.2.2.2.2.2.2.1)) else (laws_FnGossiped.j0 k bt2.2.2.2.2.2.2.2.2.2 t19 t22 true bt2.1 bt2.2.1 bt2.2.2.1 bt2.2.2.2.1 bt2.2.2.2.2.1 bt2.2.2.2.2.2.1 bt2.2.2.2.2.2.2.1 bt2.2.2.2.2.2.2.2.1))) else (laws_FnGossiped.j0 k bt2.2.2.2.2.2.2.2.2.2 t19 t22 true bt2.1 bt2.2.1 bt2.2.2.1 bt2.2.2.2.1 bt2.2.2.2.2.1 bt2.2.2.2.2.2.1 bt2.2.2.2.2.2.2.1 bt2.2.2.2.2.2.2.2.1)))))))
def laws_FnGossiped.T8 : Bool × List (List Nat × List Nat) := (true, [([], []), ([0], [0]), ([1], [1]), ([2], [2]), ([3], [3]), ([4, 3], [3, 4]), ([5, 3], [3, 5]), ([6, 3, 3], [3, 6]), ([7, 3], [3, 7]), ([8, 7, 3], [3, 8]), ([9], [9]), ([10, 9], [9, 10]), ([11, 9], [9, 11]), ([12, 9], [9, 12]), ([9], [9]), ([14, 9], [9, 14]), ([13, 15, 9], [9, 13, 15]), ([9, 16, 3], [3, 9, 16]), ([17, 9, 3], [3, 17]), ([18], [18]), ([19, 18], [18, 19]), ([20, 18], [18, 20]), ([21, 18], [18, 21]), ([22, 18], [18, 22]), ([18, 23, 3], [3, 18, 23]), ([24, 18, 3], [3, 24]), ([25], [25]), ([26, 25], [25, 26]), ([27, 25], [25, 27]), ([28, 25], [25, 28]), ([25], [25]), ([29, 30, 25], [25, 29, 30]), ([25, 31, 3], [3, 25, 31]), ([3, 32], [3, 32])])
def laws_FnGossiped.B8 : List Nat := [0, 1, 3, 7, 15, 31, 63, 127, 255, 511, 1023, 2047, 4095, 8191, 1023, 17407, 65535, 131071, 262143, 524287, 1048575, 2097151, 4194303, 8388607, 16777215, 33554431, 67108863, 134217727, 268435455, 536870911, 67108863, 2147483647, 4294967295, 8589934591]
theorem laws_FnGossiped.tab8 : rtab .any (opsOf Tryz.f6 8) = laws_FnGossiped.T8 := by kernel_rfl
theorem laws_FnGossiped.bits8 : waitsOk laws_FnGossiped.T8.2 laws_FnGossiped.B8 = true := by kernel_rfl
def laws_FnGossiped.T10 : Bool × List (List Nat × List Nat) := (true, [([], []), ([0], [0]), ([1], [1]), ([2], [2]), ([3], [3]), ([4, 3], [3, 4]), ([5, 3], [3, 5]), ([6, 3, 3], [3, 6]), ([7, 7, 3], [3, 7]), ([8], [8]), ([9, 8], [8, 9]), ([10, 8], [8, 10]), ([11, 8], [8, 11]), ([8], [8]), ([13, 8], [8, 13]), ([14, 8], [8, 14]), ([15, 8], [8, 15]), ([16, 8], [8, 16]), ([12, 17, 8], [8, 12, 17]), ([8, 18, 3], [3, 8, 18]), ([19, 8, 3], [3, 19]), ([20], [20]), ([21, 20], [20, 21]), ([22, 20], [20, 22]), ([23, 20], [20, 23]), ([20], [20]), ([25, 20], [20, 25]), ([24, 26, 20], [20, 24, 26]), ([20, 27, 3], [3, 20, 27]), ([28, 20, 3], [3, 28]), ([29], [29]), ([30, 29], [29, 30]), ([31, 29], [29, 31]), ([32, 29], [29, 32]), ([33, 29], [29, 33]), ([29, 34, 3], [3, 29, 34]), ([3, 35], [3, 35]), ([36, 29, 0, 1, 2, 3, 4, 5, 6, 7, 8, 9, 10, 11, 12, 13, 14, 15, 16, 17, 18, 19, 20, 21, 22, 23, 24, 25, 26, 27, 28, 29, 30, 31, 32, 33, 34, 35, 36], [36])])
def laws_FnGossiped.B10 : List Nat := [0, 1, 3, 7, 15, 31, 63, 127, 255, 511, 1023, 2047, 4095, 511, 8703, 25087, 57855, 123391, 262143, 524287, 1048575, 2097151, 4194303, 8388607, 16777215, 2097151, 35651583, 134217727, 268435455, 536870911, 1073741823, 2147483647, 4294967295, 8589934591, 17179869183, 34359738367, 68719476735, 137438953471]
theorem laws_FnGossiped.tab10 : rtab .any (opsOf Tryz.f6 10) = laws_FnGossiped.T10 := by kernel_rfl
theorem laws_FnGossiped.bits10 : waitsOk laws_FnGossiped.T10.2 laws_FnGossiped.B10 = true := by kernel_rfl
theorem laws_FnGossiped.calls (k : Nat) (A0 : Option Addr) (c0 : Nat) (l0 : List Int) (r : Bool) (w : World) (hr0 : Kd.C (Kd.int .u8) w A0 l0.length l0) (hc0 : l0.length ≤ c0) (h : laws_FnGossiped.f k l0 = some r) :
  Calls Tryz.prog 6 #[.slice A0 l0.length c0] w fun e w' => e = .returned (.bool r) ∧ Below w.heap.size w w' := by
 have hu43 := Tryz.underlying43
 have hu65 := Tryz.underlying65
 have hu37 := Tryz.underlying37
 have HR0 := am_ hr0
 have HC0 := am_ hc0
 clear hr0 hc0
 have HB := h0_ w
 have H : ((laws_big.f l0).bind fun t1 => (if t1 = true then (some true) else ((spec_DrawGossip.f k l0).bind fun bt2 => ((impl_Gossip.f k bt2.1 bt2.2.1 bt2.2.2.1 bt2.2.2.2.1 bt2.2.2.2.2.1 bt2.2.2.2.2.2.1 bt2.2.2.2.2.2.2.1 bt2.2.2.2.2.2.2.2.1 bt2.2.2.2.2.2.2.2.2.1 bt2.2.2.2.2.2.2.2.2.2).bind fun t19 => ((impl_AskFor.f k bt2.1 bt2.2.1 bt2.2.2.1 bt2.2.2.2.1 bt2.2.2.2.2.1 bt2.2.2.2.2.2.1 bt2.2.2.2.2.2.2.1 bt2.2.2.2.2.2.2.2.1 bt2.2.2.2.2.2.2.2.2.1 bt2.2.2.2.2.2.2.2.2.2).bind fun t22 => ((spec_Gossip.f k bt2.1 bt2.2.1 bt2.2.2.1 bt2.2.2.2.1 bt2.2.2.2.2.1 bt2.2.2.2.2.2.1 bt2.2.2.2.2.2.2.1 bt2.2.2.2.2.2.2.2.1 bt2.2.2.2.2.2.2.2.2.1 bt2.2.2.2.2.2.2.2.2.2).bind fun t25 => (if (t19.length : Int) = (t25.length : Int) then ((spec_AskFor.f k bt2.1 bt2.2.1 bt2.2.2.1 bt2.2.2.2.1 bt2.2.2.2.2.1 bt2.2.2.2.2.2.1 bt2.2.2.2.2.2.2.1 bt2.2.2.2.2.2.2.2.1 bt2.2.2.2.2.2.2.2.2.1 bt2.2.2.2.2.2.2.2.2.2).bind fun t28 => (if (t22.length : Int) = (t28.length : Int) then (if (t19.length : Int) > 1 then (laws_FnGossiped.j0 k bt2.2.2.2.2.2.2.2.2.2 t19 t22 true bt2.1 bt2.2.1 bt2.2.2.1 bt2.2.2.2.1 bt2.2.2.2.2.1 bt2.2.2.2.2.2.1 bt2.2.2.2.2.2.2.1 bt2.2.2.2.2.2.2.2.1) else (laws_FnGossiped.j0 k bt2.2.2.2.2.2.2.2.2.2 t19 t22 (decide ((t22.length : Int) > (t19.length : Int))) bt2.1 bt2.2.1 bt2.2.2.1 bt2.2.2.2.1 bt2.2.2.2.2.1 bt2.2.2.2.2.2.1 bt2.2.2.2.2.2.2.1 bt2.2.2.2.2.2.2.2.1)) else (laws_FnGossiped.j0 k bt2.2.2.2.2.2.2.2.2.2 t19 t22 true bt2.1 bt2.2.1 bt2.2.2.1 bt2.2.2.2.1 bt2.2.2.2.2.1 bt2.2.2.2.2.2.1 bt2.2.2.2.2.2.2.1 bt2.2.2.2.2.2.2.2.1))) else (laws_FnGossiped.j0 k bt2.2.2.2.2.2.2.2.2.2 t19 t22 true bt2.1 bt2.2.1 bt2.2.2.1 bt2.2.2.2.1 bt2.2.2.2.2.1 bt2.2.2.2.2.2.1 bt2.2.2.2.2.2.2.1 bt2.2.2.2.2.2.2.2.1)))))))) = some r := h
 clear h
 replace H := bi_ H; obtain ⟨t1, A2, H⟩ := H
 replace H := itb_ H; obtain ⟨rfl, H⟩ | ⟨rfl, H⟩ := H
 ·obtain rfl := Option.some.inj H
  go_enter Tryz.func6, Tryz.ntmps6
  go_wp2_with (first | ((with_reducible refine gq_ 22 9 ?_); refine gc_ 9 Tryz.func22 (laws_big.calls _ _ l0 true _ (cr_ HR0.out) HC0.out A2.out) ?_; rintro e w' ⟨rfl, ⟨nd, rfl⟩⟩; refine ⟨_, rfl, ?_⟩))
  go_ret
  exact ⟨e2_, bw_ HB⟩
 ·replace H := bi_ H; obtain ⟨⟨t602, t3, t6, t7, t8, t11, t12, t13, t14, t17⟩, A4, H⟩ := H
  dsimp only at H
  replace H := bi_ H; obtain ⟨t19, A5, H⟩ := H
  replace H := bi_ H; obtain ⟨t22, A6, H⟩ := H
  have HC7 := am_ H
  clear H
  go_enter Tryz.func6, Tryz.ntmps6
  go_upto_region 6 with (first | ((with_reducible refine gq_ 22 9 ?_); refine gc_ 9 Tryz.func22 (laws_big.calls _ _ l0 false _ (cr_ HR0.out) HC0.out A2.out) ?_; rintro e w' ⟨rfl, ⟨nd, rfl⟩⟩; refine ⟨_, rfl, ?_⟩) | ((with_reducible refine gq_ 32 12 ?_); refine gc_ 12 Tryz.func32 (spec_DrawGossip.calls k _ _ l0 t602 t3 t6 t7 t8 t11 t12 t13 t14 t17 _ (cr_ HR0.out) HC0.out A4.out) ?_; rintro e w8 ⟨v4, v9, v15, rfl, ho0, ho1, ho2, hb⟩; refine ⟨_, rfl, ?_⟩; have HO5 := rlo_ ho0 HB; have HO10 := rlo_ ho1 HB; have HO16 := rlo_ ho2 HB; replace HB := ss_ HB hb; clear hb ho0 ho1 ho2) | ((with_reducible refine gd_ 3 ?_); (try (refine gate_guard (by rfl) ?_; dsimp only)); refine x43_ 3 ?_; intro gb18 hg w9 hbox hb; replace HO5 := rb_ HO5 hb; replace HO10 := rb_ HO10 hb; replace HO16 := rb_ HO16 hb; have BK18 := am_ hbox; have GW18 := gg_ hg HB; have GE18 := GW18; replace HB := ss_ HB hb; clear hb hbox hg; have hcz10 := cz8_ BK18; obtain ⟨Ao11, co11, eo11⟩ := Kd.R_slice HO5.out; subst eo11; obtain ⟨Ao12, co12, eo12⟩ := Kd.R_slice HO10.out; subst eo12; obtain ⟨Ao13, co13, eo13⟩ := Kd.R_slice HO16.out; subst eo13) | ((with_reducible refine gq_ 33 19 ?_); refine gc_ 19 Tryz.func33 (impl_Gossip.calls k t602 _ _ t3 t6 t7 _ _ t8 t11 t12 t13 _ _ t14 t17 t19 _ (chf_ HO5 BK18) (cl_ HO5) (chf_ HO10 BK18) (cl_ HO10) (chf_ HO16 BK18) (cl_ HO16) A5.out) ?_; rintro e w14 ⟨v20, rfl, ho0, hb⟩; refine ⟨_, rfl, ?_⟩; replace HO10 := rbf_ HO10 BK18 hb; replace HO16 := rbf_ HO16 BK18 hb; have HO21 := am_ (Kd.S_lower (Kd.S_new' ho0 (lf_ HO5 BK18)) (sz_ HB)); replace HO5 := rbf_ HO5 BK18 hb; replace BK18 := kp_ BK18 hb; replace HB := ss_ HB hb; clear hb ho0; have hcz15 := cz8_ BK18) | ((with_reducible refine gq_ 14 23 ?_); refine gc_ 23 Tryz.func14 (impl_AskFor.calls k t602 _ _ t3 t6 t7 _ _ t8 t11 t12 t13 _ _ t14 t17 t22 _ (ch_ HO5) (cl_ HO5) (ch_ HO10) (cl_ HO10) (ch_ HO16) (cl_ HO16) A6.out) ?_; rintro e w16 ⟨v23, rfl, ho0, hb⟩; refine ⟨_, rfl, ?_⟩; replace HO10 := rb_ HO10 hb; replace HO16 := rb_ HO16 hb; have HO24 := am_ (Kd.S_lower (Kd.S_new' (Kd.S_new' ho0 (lt_ HO5)) (Kd.S_lt (by (with_reducible repeat (first | apply Kd.S_alloc | apply Kd.S_drewN | apply Kd.S_drew)); exact HO21.out))) (sz_ HB)); replace HO5 := rb_ HO5 hb; replace HO21 := am_ (Kd.S_elder' (by (with_reducible repeat (first | apply Kd.S_alloc | apply Kd.S_drewN | apply Kd.S_drew)); exact HO21.out) (Kd.S_base ho0) hb); replace BK18 := kl_ BK18 hb; replace HB := ss_ HB hb; clear hb ho0))
  (try simp only [Act.put, List.setIfInBounds_toArray, List.set_cons_zero, List.set_cons_succ])
  go_cut [53] (fun v53 wc => ∃ (kq : Nat) (x53_6 : Bool), v53 = .bool x53_6 ∧ Aside0 (laws_FnGossiped.j0 kq t17 t19 t22 x53_6 t602 t3 t6 t7 t8 t11 t12 t13 = some r) ∧ Aside0 (kq ≤ k) ∧ Aside0 (Kd.S k65 65 wc w.heap.size (fun k_ => some k_ ≠ (v23 : Value).ownBlock ∧ some k_ ≠ ((.slice Ao11 t3.length co11) : Value).ownBlock) v20 t19) ∧ Aside0 (Kd.S k65 65 wc w.heap.size (fun k_ => some k_ ≠ (v20 : Value).ownBlock ∧ some k_ ≠ ((.slice Ao11 t3.length co11) : Value).ownBlock) v23 t22) ∧ Aside0 (Kd.R Kd.string 9 wc w.heap.size (fun _ => True) (.slice Ao11 t3.length co11) t3) ∧ Aside0 (Kd.R (Kd.int .u8) 5 wc w.heap.size (fun _ => True) (.slice Ao12 t8.length co12) t8) ∧ Aside0 (wc.heap[gb18]? = some (.cells #[.int .i64 t602, (.slice Ao11 t3.length co11), .int .i64 t6, .string t7, (.slice Ao12 t8.length co12), .int .i64 t11, .int .i64 t12, .string t13] 43 (0, 0))) ∧ Aside0 (Below w.heap.size w wc))
  case first =>
   have H := HC7.out
   clear HC7
   replace H := bi_ H; obtain ⟨t25, A17, H⟩ := H
   replace H := it_ H; obtain ⟨c18, H⟩ | ⟨c18, H⟩ := H
   ·have c18b0 : ((t19.length : Int) == (t25.length : Int)) = true := beq_iff_eq.mpr c18
    have c18b1 : ((t19.length : Int) != (t25.length : Int)) = false := bne_eq_false_iff_eq.mpr c18
    have c18b2 : (t19.length == t25.length) = true := by first | simpa using c18 | (simp at c18 ⊢; omega)
    clear c18
    (first | rw [c18b0] | (simp only [i64_w, i32_w]; rw [c18b0]) | skip)
    replace H := bi_ H; obtain ⟨t28, A19, H⟩ := H
    replace H := it_ H; obtain ⟨c20, H⟩ | ⟨c20, H⟩ := H
    ·have c20b0 : ((t22.length : Int) == (t28.length : Int)) = true := beq_iff_eq.mpr c20
     have c20b1 : ((t22.length : Int) != (t28.length : Int)) = false := bne_eq_false_iff_eq.mpr c20
     have c20b2 : (t22.length == t28.length) = true := by first | simpa using c20 | (simp at c20 ⊢; omega)
     clear c20
     replace H := it_ H; obtain ⟨c21, H⟩ | ⟨c21, H⟩ := H
     ·have c21b0 : decide (1 < (t19.length : Int)) = true := decide_eq_true c21
      have c21b1 : decide (1 < t19.length) = true := decide_eq_true (by omega)
      clear c21
      have H' := am_ H
      clear H
      obtain ⟨Ao22, co22, eo22⟩ := Kd.S_slice HO21.out
      subst eo22
      have hcz23 := cz8_ BK18
      go_wp2_with (first | ((with_reducible refine gq_ 34 29 ?_); refine gc_ 29 Tryz.func34 (spec_Gossip.calls k t602 _ _ t3 t6 t7 _ _ t8 t11 t12 t13 _ _ t14 t17 t25 _ (ch_ HO5) (cl_ HO5) (ch_ HO10) (cl_ HO10) (ch_ HO16) (cl_ HO16) A17.out) ?_; rintro e w24 ⟨v26, rfl, ho0, hb⟩; refine ⟨_, rfl, ?_⟩; replace HO10 := rb_ HO10 hb; replace HO16 := rb_ HO16 hb; have HO27 := am_ (Kd.S_lower (Kd.S_new' (Kd.S_new' (Kd.S_new' ho0 (lt_ HO5)) (Kd.S_lt (by (with_reducible repeat (first | apply Kd.S_alloc | apply Kd.S_drewN | apply Kd.S_drew)); exact HO21.out))) (Kd.S_lt (by (with_reducible repeat (first | apply Kd.S_alloc | apply Kd.S_drewN | apply Kd.S_drew)); exact HO24.out))) (sz_ HB)); replace HO5 := rb_ HO5 hb; replace HO21 := am_ (Kd.S_elder' (by (with_reducible repeat (first | apply Kd.S_alloc | apply Kd.S_drewN | apply Kd.S_drew)); exact HO21.out) (Kd.S_base ho0) hb); replace HO24 := am_ (Kd.S_elder' (by (with_reducible repeat (first | apply Kd.S_alloc | apply Kd.S_drewN | apply Kd.S_drew)); exact HO24.out) (Kd.S_base ho0) hb); replace BK18 := kl_ BK18 hb; replace HB := ss_ HB hb; clear hb ho0; obtain ⟨Ao25, co25, eo25⟩ := Kd.S_slice HO27.out; subst eo25; obtain ⟨Ao26, co26, eo26⟩ := Kd.S_slice HO24.out; subst eo26; have hcz27 := cz8_ BK18) | (go_at_call 11; (with_reducible refine (spec_AskFor.calls k t602 _ _ t3 t6 t7 _ _ t8 t11 t12 t13 _ _ t14 t17 t28 _ ?side1 ?side2 ?side3 ?side4 ?side5 ?side6 A19.out).mono ?_); (case side1 => exact ch_ HO5); (case side2 => exact (cl_ HO5)); (case side3 => exact ch_ HO10); (case side4 => exact (cl_ HO10)); (case side5 => exact ch_ HO16); (case side6 => exact (cl_ HO16)); rintro e w28 ⟨v29, rfl, ho0, hb⟩; replace HO10 := rb_ HO10 hb; replace HO16 := rb_ HO16 hb; have HO30 := am_ (Kd.S_lower (Kd.S_new' (Kd.S_new' (Kd.S_new' (Kd.S_new' ho0 (lt_ HO5)) (Kd.S_lt (by (with_reducible repeat (first | apply Kd.S_alloc | apply Kd.S_drewN | apply Kd.S_drew)); exact HO21.out))) (Kd.S_lt (by (with_reducible repeat (first | apply Kd.S_alloc | apply Kd.S_drewN | apply Kd.S_drew)); exact HO24.out))) (Kd.S_lt (by (with_reducible repeat (first | apply Kd.S_alloc | apply Kd.S_drewN | apply Kd.S_drew)); exact HO27.out))) (sz_ HB)); replace HO5 := rb_ HO5 hb; replace HO21 := am_ (Kd.S_elder' (by (with_reducible repeat (first | apply Kd.S_alloc | apply Kd.S_drewN | apply Kd.S_drew)); exact HO21.out) (Kd.S_base ho0) hb); replace HO24 := am_ (Kd.S_elder' (by (with_reducible repeat (first | apply Kd.S_alloc | apply Kd.S_drewN | apply Kd.S_drew)); exact HO24.out) (Kd.S_base ho0) hb); replace HO27 := am_ (Kd.S_elder' (by (with_reducible repeat (first | apply Kd.S_alloc | apply Kd.S_drewN | apply Kd.S_drew)); exact HO27.out) (Kd.S_base ho0) hb); replace BK18 := kl_ BK18 hb; replace HB := ss_ HB hb; clear hb ho0; obtain ⟨Ao29, co29, eo29⟩ := Kd.S_slice HO30.out; subst eo29))
      go_meet
      case rel => exact ⟨_, (true), e1_, H', ⟨le_⟩, ⟨by (with_reducible repeat (first | apply Kd.S_alloc | apply Kd.S_drewN | apply Kd.S_drew)); exact Kd.S_mono HO21.out (fun _ hk => ⟨hk.1.1.2, hk.1.1.1.2⟩)⟩, ⟨by (with_reducible repeat (first | apply Kd.S_alloc | apply Kd.S_drewN | apply Kd.S_drew)); exact Kd.S_mono HO24.out (fun _ hk => ⟨hk.1.1.2, hk.1.1.1.2⟩)⟩, ⟨kr_ HO5.out⟩, ⟨kr_ HO10.out⟩, ⟨kb_ BK18.out⟩, ⟨bw_ HB⟩⟩
     ·have c21b0 : decide (1 < (t19.length : Int)) = false := decide_eq_false c21
      have c21b1 : decide (1 < t19.length) = false := decide_eq_false (by omega)
      clear c21
      have H' := am_ H
      clear H
      obtain ⟨Ao30, co30, eo30⟩ := Kd.S_slice HO21.out
      subst eo30
      have hcz31 := cz8_ BK18
      go_wp2_with (first | ((with_reducible refine gq_ 34 29 ?_); refine gc_ 29 Tryz.func34 (spec_Gossip.calls k t602 _ _ t3 t6 t7 _ _ t8 t11 t12 t13 _ _ t14 t17 t25 _ (ch_ HO5) (cl_ HO5) (ch_ HO10) (cl_ HO10) (ch_ HO16) (cl_ HO16) A17.out) ?_; rintro e w32 ⟨v26, rfl, ho0, hb⟩; refine ⟨_, rfl, ?_⟩; replace HO10 := rb_ HO10 hb; replace HO16 := rb_ HO16 hb; have HO27 := am_ (Kd.S_lower (Kd.S_new' (Kd.S_new' (Kd.S_new' ho0 (lt_ HO5)) (Kd.S_lt (by (with_reducible repeat (first | apply Kd.S_alloc | apply Kd.S_drewN | apply Kd.S_drew)); exact HO21.out))) (Kd.S_lt (by (with_reducible repeat (first | apply Kd.S_alloc | apply Kd.S_drewN | apply Kd.S_drew)); exact HO24.out))) (sz_ HB)); replace HO5 := rb_ HO5 hb; replace HO21 := am_ (Kd.S_elder' (by (with_reducible repeat (first | apply Kd.S_alloc | apply Kd.S_drewN | apply Kd.S_drew)); exact HO21.out) (Kd.S_base ho0) hb); replace HO24 := am_ (Kd.S_elder' (by (with_reducible repeat (first | apply Kd.S_alloc | apply Kd.S_drewN | apply Kd.S_drew)); exact HO24.out) (Kd.S_base ho0) hb); replace BK18 := kl_ BK18 hb; replace HB := ss_ HB hb; clear hb ho0; obtain ⟨Ao33, co33, eo33⟩ := Kd.S_slice HO27.out; subst eo33; obtain ⟨Ao34, co34, eo34⟩ := Kd.S_slice HO24.out; subst eo34; have hcz35 := cz8_ BK18) | (go_at_call 11; (with_reducible refine (spec_AskFor.calls k t602 _ _ t3 t6 t7 _ _ t8 t11 t12 t13 _ _ t14 t17 t28 _ ?side1 ?side2 ?side3 ?side4 ?side5 ?side6 A19.out).mono ?_); (case side1 => exact ch_ HO5); (case side2 => exact (cl_ HO5)); (case side3 => exact ch_ HO10); (case side4 => exact (cl_ HO10)); (case side5 => exact ch_ HO16); (case side6 => exact (cl_ HO16)); rintro e w36 ⟨v29, rfl, ho0, hb⟩; replace HO10 := rb_ HO10 hb; replace HO16 := rb_ HO16 hb; have HO30 := am_ (Kd.S_lower (Kd.S_new' (Kd.S_new' (Kd.S_new' (Kd.S_new' ho0 (lt_ HO5)) (Kd.S_lt (by (with_reducible repeat (first | apply Kd.S_alloc | apply Kd.S_drewN | apply Kd.S_drew)); exact HO21.out))) (Kd.S_lt (by (with_reducible repeat (first | apply Kd.S_alloc | apply Kd.S_drewN | apply Kd.S_drew)); exact HO24.out))) (Kd.S_lt (by (with_reducible repeat (first | apply Kd.S_alloc | apply Kd.S_drewN | apply Kd.S_drew)); exact HO27.out))) (sz_ HB)); replace HO5 := rb_ HO5 hb; replace HO21 := am_ (Kd.S_elder' (by (with_reducible repeat (first | apply Kd.S_alloc | apply Kd.S_drewN | apply Kd.S_drew)); exact HO21.out) (Kd.S_base ho0) hb); replace HO24 := am_ (Kd.S_elder' (by (with_reducible repeat (first | apply Kd.S_alloc | apply Kd.S_drewN | apply Kd.S_drew)); exact HO24.out) (Kd.S_base ho0) hb); replace HO27 := am_ (Kd.S_elder' (by (with_reducible repeat (first | apply Kd.S_alloc | apply Kd.S_drewN | apply Kd.S_drew)); exact HO27.out) (Kd.S_base ho0) hb); replace BK18 := kl_ BK18 hb; replace HB := ss_ HB hb; clear hb ho0; obtain ⟨Ao37, co37, eo37⟩ := Kd.S_slice HO30.out; subst eo37))
      go_meet
      case rel => exact ⟨_, (decide ((t22.length : Int) > (t19.length : Int))), e1_, H', ⟨le_⟩, ⟨by (with_reducible repeat (first | apply Kd.S_alloc | apply Kd.S_drewN | apply Kd.S_drew)); exact Kd.S_mono HO21.out (fun _ hk => ⟨hk.1.1.2, hk.1.1.1.2⟩)⟩, ⟨by (with_reducible repeat (first | apply Kd.S_alloc | apply Kd.S_drewN | apply Kd.S_drew)); exact Kd.S_mono HO24.out (fun _ hk => ⟨hk.1.1.2, hk.1.1.1.2⟩)⟩, ⟨kr_ HO5.out⟩, ⟨kr_ HO10.out⟩, ⟨kb_ BK18.out⟩, ⟨bw_ HB⟩⟩
    ·have c20b0 : ((t22.length : Int) == (t28.length : Int)) = false := beq_eq_false_iff_ne.mpr c20
     have c20b1 : ((t22.length : Int) != (t28.length : Int)) = true := bne_iff_ne.mpr c20
     have c20b2 : (t22.length == t28.length) = false := by first | simpa using c20 | (simp at c20 ⊢; omega)
     have H' := am_ H
     clear H
     obtain ⟨Ao38, co38, eo38⟩ := Kd.S_slice HO21.out
     subst eo38
     have hcz39 := cz8_ BK18
     go_wp2_with (first | ((with_reducible refine gq_ 34 29 ?_); refine gc_ 29 Tryz.func34 (spec_Gossip.calls k t602 _ _ t3 t6 t7 _ _ t8 t11 t12 t13 _ _ t14 t17 t25 _ (ch_ HO5) (cl_ HO5) (ch_ HO10) (cl_ HO10) (ch_ HO16) (cl_ HO16) A17.out) ?_; rintro e w40 ⟨v26, rfl, ho0, hb⟩; refine ⟨_, rfl, ?_⟩; replace HO10 := rb_ HO10 hb; replace HO16 := rb_ HO16 hb; have HO27 := am_ (Kd.S_lower (Kd.S_new' (Kd.S_new' (Kd.S_new' ho0 (lt_ HO5)) (Kd.S_lt (by (with_reducible repeat (first | apply Kd.S_alloc | apply Kd.S_drewN | apply Kd.S_drew)); exact HO21.out))) (Kd.S_lt (by (with_reducible repeat (first | apply Kd.S_alloc | apply Kd.S_drewN | apply Kd.S_drew)); exact HO24.out))) (sz_ HB)); replace HO5 := rb_ HO5 hb; replace HO21 := am_ (Kd.S_elder' (by (with_reducible repeat (first | apply Kd.S_alloc | apply Kd.S_drewN | apply Kd.S_drew)); exact HO21.out) (Kd.S_base ho0) hb); replace HO24 := am_ (Kd.S_elder' (by (with_reducible repeat (first | apply Kd.S_alloc | apply Kd.S_drewN | apply Kd.S_drew)); exact HO24.out) (Kd.S_base ho0) hb); replace BK18 := kl_ BK18 hb; replace HB := ss_ HB hb; clear hb ho0; obtain ⟨Ao41, co41, eo41⟩ := Kd.S_slice HO27.out; subst eo41; obtain ⟨Ao42, co42, eo42⟩ := Kd.S_slice HO24.out; subst eo42; have hcz43 := cz8_ BK18) | (go_at_call 11; (with_reducible refine (spec_AskFor.calls k t602 _ _ t3 t6 t7 _ _ t8 t11 t12 t13 _ _ t14 t17 t28 _ ?side1 ?side2 ?side3 ?side4 ?side5 ?side6 A19.out).mono ?_); (case side1 => exact ch_ HO5); (case side2 => exact (cl_ HO5)); (case side3 => exact ch_ HO10); (case side4 => exact (cl_ HO10)); (case side5 => exact ch_ HO16); (case side6 => exact (cl_ HO16)); rintro e w44 ⟨v29, rfl, ho0, hb⟩; replace HO10 := rb_ HO10 hb; replace HO16 := rb_ HO16 hb; have HO30 := am_ (Kd.S_lower (Kd.S_new' (Kd.S_new' (Kd.S_new' (Kd.S_new' ho0 (lt_ HO5)) (Kd.S_lt (by (with_reducible repeat (first | apply Kd.S_alloc | apply Kd.S_drewN | apply Kd.S_drew)); exact HO21.out))) (Kd.S_lt (by (with_reducible repeat (first | apply Kd.S_alloc | apply Kd.S_drewN | apply Kd.S_drew)); exact HO24.out))) (Kd.S_lt (by (with_reducible repeat (first | apply Kd.S_alloc | apply Kd.S_drewN | apply Kd.S_drew)); exact HO27.out))) (sz_ HB)); replace HO5 := rb_ HO5 hb; replace HO21 := am_ (Kd.S_elder' (by (with_reducible repeat (first | apply Kd.S_alloc | apply Kd.S_drewN | apply Kd.S_drew)); exact HO21.out) (Kd.S_base ho0) hb); replace HO24 := am_ (Kd.S_elder' (by (with_reducible repeat (first | apply Kd.S_alloc | apply Kd.S_drewN | apply Kd.S_drew)); exact HO24.out) (Kd.S_base ho0) hb); replace HO27 := am_ (Kd.S_elder' (by (with_reducible repeat (first | apply Kd.S_alloc | apply Kd.S_drewN | apply Kd.S_drew)); exact HO27.out) (Kd.S_base ho0) hb); replace BK18 := kl_ BK18 hb; replace HB := ss_ HB hb; clear hb ho0; obtain ⟨Ao45, co45, eo45⟩ := Kd.S_slice HO30.out; subst eo45))
     go_meet
     case rel => exact ⟨_, (true), e1_, H', ⟨le_⟩, ⟨by (with_reducible repeat (first | apply Kd.S_alloc | apply Kd.S_drewN | apply Kd.S_drew)); exact Kd.S_mono HO21.out (fun _ hk => ⟨hk.1.1.2, hk.1.1.1.2⟩)⟩, ⟨by (with_reducible repeat (first | apply Kd.S_alloc | apply Kd.S_drewN | apply Kd.S_drew)); exact Kd.S_mono HO24.out (fun _ hk => ⟨hk.1.1.2, hk.1.1.1.2⟩)⟩, ⟨kr_ HO5.out⟩, ⟨kr_ HO10.out⟩, ⟨kb_ BK18.out⟩, ⟨bw_ HB⟩⟩
   ·have c18b0 : ((t19.length : Int) == (t25.length : Int)) = false := beq_eq_false_iff_ne.mpr c18
    have c18b1 : ((t19.length : Int) != (t25.length : Int)) = true := bne_iff_ne.mpr c18
    have c18b2 : (t19.length == t25.length) = false := by first | simpa using c18 | (simp at c18 ⊢; omega)
    (first | rw [c18b0] | (simp only [i64_w, i32_w]; rw [c18b0]) | skip)
    have H' := am_ H
    clear H
    obtain ⟨Ao46, co46, eo46⟩ := Kd.S_slice HO21.out
    subst eo46
    have hcz47 := cz8_ BK18
    go_wp2_with (first | ((with_reducible refine gq_ 34 29 ?_); refine gc_ 29 Tryz.func34 (spec_Gossip.calls k t602 _ _ t3 t6 t7 _ _ t8 t11 t12 t13 _ _ t14 t17 t25 _ (ch_ HO5) (cl_ HO5) (ch_ HO10) (cl_ HO10) (ch_ HO16) (cl_ HO16) A17.out) ?_; rintro e w48 ⟨v26, rfl, ho0, hb⟩; refine ⟨_, rfl, ?_⟩; replace HO10 := rb_ HO10 hb; replace HO16 := rb_ HO16 hb; have HO27 := am_ (Kd.S_lower (Kd.S_new' (Kd.S_new' (Kd.S_new' ho0 (lt_ HO5)) (Kd.S_lt (by (with_reducible repeat (first | apply Kd.S_alloc | apply Kd.S_drewN | apply Kd.S_drew)); exact HO21.out))) (Kd.S_lt (by (with_reducible repeat (first | apply Kd.S_alloc | apply Kd.S_drewN | apply Kd.S_drew)); exact HO24.out))) (sz_ HB)); replace HO5 := rb_ HO5 hb; replace HO21 := am_ (Kd.S_elder' (by (with_reducible repeat (first | apply Kd.S_alloc | apply Kd.S_drewN | apply Kd.S_drew)); exact HO21.out) (Kd.S_base ho0) hb); replace HO24 := am_ (Kd.S_elder' (by (with_reducible repeat (first | apply Kd.S_alloc | apply Kd.S_drewN | apply Kd.S_drew)); exact HO24.out) (Kd.S_base ho0) hb); replace BK18 := kl_ BK18 hb; replace HB := ss_ HB hb; clear hb ho0; obtain ⟨Ao49, co49, eo49⟩ := Kd.S_slice HO27.out; subst eo49))
    go_meet
    case rel => exact ⟨_, (true), e1_, H', ⟨le_⟩, ⟨by (with_reducible repeat (first | apply Kd.S_alloc | apply Kd.S_drewN | apply Kd.S_drew)); exact Kd.S_mono HO21.out (fun _ hk => ⟨hk.1.2, hk.1.1.2⟩)⟩, ⟨by (with_reducible repeat (first | apply Kd.S_alloc | apply Kd.S_drewN | apply Kd.S_drew)); exact Kd.S_mono HO24.out (fun _ hk => ⟨hk.1.2, hk.1.1.2⟩)⟩, ⟨kr_ HO5.out⟩, ⟨kr_ HO10.out⟩, ⟨kb_ BK18.out⟩, ⟨bw_ HB⟩⟩
  case rest =>
   clear HC7
   obtain ⟨kq, x53_6, rfl, HA, HJ6, HO_6, HO_7, HO_19001, HO_19004, BK18, HB⟩ := hcut
   cases kq with
   | zero => exact absurd HA.out (by simp [laws_FnGossiped.j0])
   | succ kj6 =>
    have H := HA.out
    clear HA
    simp only [laws_FnGossiped.j0] at H
    replace H := inb_ H; obtain ⟨rfl, H⟩ := H
    replace H := it_ H; obtain ⟨c51, H⟩ | ⟨c51, H⟩ := H
    ·have c51b0 : ((t19.length : Int) == 1) = true := beq_iff_eq.mpr c51
     have c51b1 : ((t19.length : Int) != 1) = false := bne_eq_false_iff_eq.mpr c51
     clear c51
     replace H := ip_ H; obtain ⟨c52, H⟩ := H
     have c52b0 := decide_eq_true c52
     have c52b1 : decide (0 < t19.length) = true := decide_eq_true (by omega)
     clear c52
     replace H := bi_ H; obtain ⟨t32, A53, H⟩ := H
     replace H := ipb_ H; obtain ⟨rfl, H⟩ := H
     replace H := it_ H; obtain ⟨c55, H⟩ | ⟨c55, H⟩ := H
     ·have c55b0 : (!(((rd_T65 t19 0).f3.f0) == t12) || (!((((rd_T65 t19 0).f3.f1).toList) == t13.toList))) = true := c55
      clear c55
      exact absurd H (by simp)
     ·have c55b0 : (!(((rd_T65 t19 0).f3.f0) == t12) || (!((((rd_T65 t19 0).f3.f1).toList) == t13.toList))) = false := by simpa using c55
      clear c55
      replace H := it_ H; obtain ⟨c56, H⟩ | ⟨c56, H⟩ := H
      ·have c56b0 : (((rd_T65 t19 0).f0) == 1) = true := beq_iff_eq.mpr c56
       have c56b1 : (((rd_T65 t19 0).f0) != 1) = false := bne_eq_false_iff_eq.mpr c56
       clear c56
       replace H := ip_ H; obtain ⟨c57, H⟩ := H
       have c57b0 : (((rd_T65 t19 0).f2) == t17) = true := beq_iff_eq.mpr c57
       have c57b1 : (((rd_T65 t19 0).f2) != t17) = false := bne_eq_false_iff_eq.mpr c57
       clear c57
       replace H := it_ H; obtain ⟨c58, H⟩ | ⟨c58, H⟩ := H
       ·have c58b0 : ((t22.length : Int) == 0) = true := beq_iff_eq.mpr c58
        have c58b1 : ((t22.length : Int) != 0) = false := bne_eq_false_iff_eq.mpr c58
        clear c58
        obtain rfl := Option.some.inj H
        try go_wp2
        replace HO_6 := am_ (Kd.S_drew HO_6.out)
        replace HO_7 := am_ (Kd.S_drew HO_7.out)
        replace BK18 := bd_ BK18
        replace HB := hd_ HB
        obtain ⟨Ao60, co60, eo60⟩ := Kd.S_slice HO_6.out
        (first | subst eo60 | (injection eo60 with f1_ f2_ f3_; have f4_ := f1_.symm; have f5_ := f3_.symm; clear f1_ f2_ f3_; subst f4_; subst f5_))
        have p31 : 0 ≤ (0 : Int) := (by omega)
        have q31 : 0 < (t19.length : Int) := od_
        obtain ⟨ad31, A31_6, c31_6, e31, hx31_0, hx31_1, hx31_2, hx31_3, hx31_4, hx31_5, hx31_6, hl31_6, hi31_6⟩ := at_T65 (Kd.S_reads' HO_6.out).2.2 0 p31 q31
        cases e31
        obtain ⟨ce31, hce31, hMe31, hcc31⟩ := Kd.S_get HO_6.out z65 0 p31 (by first | exact q31 | exact od_ | (have e_ := (Kd.S_reads' HO_6.out).1; omega))
        obtain ⟨ve31_6, rfl, ge31_6⟩ := k65_openM hMe31
        have hv31_6 := hcc31 6 _ rfl
        rw [add_field _ _ 6 (by omega)] at hv31_6
        replace hv31_6 := Option.some.inj (hv31_6.symm.trans hx31_6)
        rw [hv31_6] at ge31_6
        have HL31_6 := am_ (show Kd.R Kd.string 9 _ _ _ _ ((rd_T65 t19 0).f5) from ge31_6)
        clear hv31_6 ge31_6
        clear hcc31 hce31
        have qi31 : (0 < t19.length) = True := eq_true (by omega)
        rw [show ((0 : Int)).toNat = 0 from rfl, show 0 * 7 = 0 from rfl] at hx31_0 hx31_1 hx31_2 hx31_3 hx31_4 hx31_5 hx31_6
        (try rw [Addr.add_zero'] at hx31_0)
        have HR31_6 := am_ hi31_6
        have HC31_6 := am_ hl31_6
        clear hi31_6 hl31_6
        replace p31 := eq_true p31
        replace q31 := eq_true q31
        have p33 : 0 ≤ (0 : Int) := (by omega)
        have q33 : 0 < (t19.length : Int) := od_
        obtain ⟨ad33, A33_6, c33_6, e33, hx33_0, hx33_1, hx33_2, hx33_3, hx33_4, hx33_5, hx33_6, hl33_6, hi33_6⟩ := at_T65 (Kd.S_reads' HO_6.out).2.2 0 p33 q33
        obtain rfl : ad31 = ad33 := (by injection e33)
        obtain ⟨ce33, hce33, hMe33, hcc33⟩ := Kd.S_get HO_6.out z65 0 p33 (by first | exact q33 | exact od_ | (have e_ := (Kd.S_reads' HO_6.out).1; omega))
        obtain ⟨ve33_6, rfl, ge33_6⟩ := k65_openM hMe33
        have hv33_6 := hcc33 6 _ rfl
        rw [add_field _ _ 6 (by omega)] at hv33_6
        replace hv33_6 := Option.some.inj (hv33_6.symm.trans hx33_6)
        rw [hv33_6] at ge33_6
        have HL33_6 := am_ (show Kd.R Kd.string 9 _ _ _ _ ((rd_T65 t19 0).f5) from ge33_6)
        clear hv33_6 ge33_6
        clear hcc33 hce33
        have qi33 : (0 < t19.length) = True := eq_true (by omega)
        rw [show ((0 : Int)).toNat = 0 from rfl, show 0 * 7 = 0 from rfl] at hx33_0 hx33_1 hx33_2 hx33_3 hx33_4 hx33_5 hx33_6
        (try rw [Addr.add_zero'] at hx33_0)
        have HR33_6 := am_ hi33_6
        have HC33_6 := am_ hl33_6
        clear hi33_6 hl33_6
        replace p33 := eq_true p33
        replace q33 := eq_true q33
        have p34 : 0 ≤ (0 : Int) := (by omega)
        have q34 : 0 < (t19.length : Int) := od_
        obtain ⟨ad34, A34_6, c34_6, e34, hx34_0, hx34_1, hx34_2, hx34_3, hx34_4, hx34_5, hx34_6, hl34_6, hi34_6⟩ := at_T65 (Kd.S_reads' HO_6.out).2.2 0 p34 q34
        obtain rfl : ad31 = ad34 := (by injection e34)
        obtain ⟨ce34, hce34, hMe34, hcc34⟩ := Kd.S_get HO_6.out z65 0 p34 (by first | exact q34 | exact od_ | (have e_ := (Kd.S_reads' HO_6.out).1; omega))
        obtain ⟨ve34_6, rfl, ge34_6⟩ := k65_openM hMe34
        have hv34_6 := hcc34 6 _ rfl
        rw [add_field _ _ 6 (by omega)] at hv34_6
        replace hv34_6 := Option.some.inj (hv34_6.symm.trans hx34_6)
        rw [hv34_6] at ge34_6
        have HL34_6 := am_ (show Kd.R Kd.string 9 _ _ _ _ ((rd_T65 t19 0).f5) from ge34_6)
        clear hv34_6 ge34_6
        clear hcc34 hce34
        have qi34 : (0 < t19.length) = True := eq_true (by omega)
        rw [show ((0 : Int)).toNat = 0 from rfl, show 0 * 7 = 0 from rfl] at hx34_0 hx34_1 hx34_2 hx34_3 hx34_4 hx34_5 hx34_6
        (try rw [Addr.add_zero'] at hx34_0)
        have HR34_6 := am_ hi34_6
        have HC34_6 := am_ hl34_6
        clear hi34_6 hl34_6
        replace p34 := eq_true p34
        replace q34 := eq_true q34
        have ea_ := Option.some.inj (hx33_6.symm.trans hx34_6)
        injection ea_ with ea_ en_ ec_
        subst ea_
        subst ec_
        clear en_
        have p35 : 0 ≤ (0 : Int) := (by omega)
        have q35 : 0 < (t19.length : Int) := od_
        obtain ⟨ad35, A35_6, c35_6, e35, hx35_0, hx35_1, hx35_2, hx35_3, hx35_4, hx35_5, hx35_6, hl35_6, hi35_6⟩ := at_T65 (Kd.S_reads' HO_6.out).2.2 0 p35 q35
        obtain rfl : ad31 = ad35 := (by injection e35)
        obtain ⟨ce35, hce35, hMe35, hcc35⟩ := Kd.S_get HO_6.out z65 0 p35 (by first | exact q35 | exact od_ | (have e_ := (Kd.S_reads' HO_6.out).1; omega))
        obtain ⟨ve35_6, rfl, ge35_6⟩ := k65_openM hMe35
        have hv35_6 := hcc35 6 _ rfl
        rw [add_field _ _ 6 (by omega)] at hv35_6
        replace hv35_6 := Option.some.inj (hv35_6.symm.trans hx35_6)
        rw [hv35_6] at ge35_6
        have HL35_6 := am_ (show Kd.R Kd.string 9 _ _ _ _ ((rd_T65 t19 0).f5) from ge35_6)
        clear hv35_6 ge35_6
        clear hcc35 hce35
        have qi35 : (0 < t19.length) = True := eq_true (by omega)
        rw [show ((0 : Int)).toNat = 0 from rfl, show 0 * 7 = 0 from rfl] at hx35_0 hx35_1 hx35_2 hx35_3 hx35_4 hx35_5 hx35_6
        (try rw [Addr.add_zero'] at hx35_0)
        have HR35_6 := am_ hi35_6
        have HC35_6 := am_ hl35_6
        clear hi35_6 hl35_6
        replace p35 := eq_true p35
        replace q35 := eq_true q35
        have ea_ := Option.some.inj (hx33_6.symm.trans hx35_6)
        injection ea_ with ea_ en_ ec_
        subst ea_
        subst ec_
        clear en_
        refine sw_ 34 (fun w' => w'.cell? ⟨gb18, 0, none⟩ = some (.int .i64 t602) ∧ w'.cell? ⟨gb18, 1, none⟩ = some (.slice Ao11 t3.length co11) ∧ w'.cell? ⟨gb18, 2, none⟩ = some (.int .i64 t6) ∧ w'.cell? ⟨gb18, 3, none⟩ = some (.string t7) ∧ w'.cell? ⟨gb18, 4, none⟩ = some (.slice Ao12 t8.length co12) ∧ w'.cell? ⟨gb18, 5, none⟩ = some (.int .i64 t11) ∧ w'.cell? ⟨gb18, 6, none⟩ = some (.int .i64 t12) ∧ w'.cell? ⟨gb18, 7, none⟩ = some (.string t13) ∧ w'.cell? ad31 = some (.int .i64 ((rd_T65 t19 0).f0)) ∧ w'.cell? ⟨ad31.block, ad31.off + 1, none⟩ = some (.int .i64 ((rd_T65 t19 0).f1)) ∧ w'.cell? ⟨ad31.block, ad31.off + 2, none⟩ = some (.int .i64 ((rd_T65 t19 0).f2)) ∧ w'.cell? ⟨ad31.block, ad31.off + 3, none⟩ = some (.int .i64 ((rd_T65 t19 0).f3.f0)) ∧ w'.cell? ⟨ad31.block, ad31.off + 4, none⟩ = some (.string ((rd_T65 t19 0).f3.f1)) ∧ w'.cell? ⟨ad31.block, ad31.off + 5, none⟩ = some (.int .i64 ((rd_T65 t19 0).f4)) ∧ w'.cell? ⟨ad31.block, ad31.off + 6, none⟩ = some (.slice A31_6 ((rd_T65 t19 0).f5).length c31_6) ∧ w'.cell? ad31 = some (.int .i64 ((rd_T65 t19 0).f0)) ∧ w'.cell? ⟨ad31.block, ad31.off + 1, none⟩ = some (.int .i64 ((rd_T65 t19 0).f1)) ∧ w'.cell? ⟨ad31.block, ad31.off + 2, none⟩ = some (.int .i64 ((rd_T65 t19 0).f2)) ∧ w'.cell? ⟨ad31.block, ad31.off + 3, none⟩ = some (.int .i64 ((rd_T65 t19 0).f3.f0)) ∧ w'.cell? ⟨ad31.block, ad31.off + 4, none⟩ = some (.string ((rd_T65 t19 0).f3.f1)) ∧ w'.cell? ⟨ad31.block, ad31.off + 5, none⟩ = some (.int .i64 ((rd_T65 t19 0).f4)) ∧ w'.cell? ⟨ad31.block, ad31.off + 6, none⟩ = some (.slice A33_6 ((rd_T65 t19 0).f5).length c33_6) ∧ w'.cell? ad31 = some (.int .i64 ((rd_T65 t19 0).f0)) ∧ w'.cell? ⟨ad31.block, ad31.off + 1, none⟩ = some (.int .i64 ((rd_T65 t19 0).f1)) ∧ w'.cell? ⟨ad31.block, ad31.off + 2, none⟩ = some (.int .i64 ((rd_T65 t19 0).f2)) ∧ w'.cell? ⟨ad31.block, ad31.off + 3, none⟩ = some (.int .i64 ((rd_T65 t19 0).f3.f0)) ∧ w'.cell? ⟨ad31.block, ad31.off + 4, none⟩ = some (.string ((rd_T65 t19 0).f3.f1)) ∧ w'.cell? ⟨ad31.block, ad31.off + 5, none⟩ = some (.int .i64 ((rd_T65 t19 0).f4)) ∧ w'.cell? ⟨ad31.block, ad31.off + 6, none⟩ = some (.slice A33_6 ((rd_T65 t19 0).f5).length c33_6) ∧ w'.cell? ad31 = some (.int .i64 ((rd_T65 t19 0).f0)) ∧ w'.cell? ⟨ad31.block, ad31.off + 1, none⟩ = some (.int .i64 ((rd_T65 t19 0).f1)) ∧ w'.cell? ⟨ad31.block, ad31.off + 2, none⟩ = some (.int .i64 ((rd_T65 t19 0).f2)) ∧ w'.cell? ⟨ad31.block, ad31.off + 3, none⟩ = some (.int .i64 ((rd_T65 t19 0).f3.f0)) ∧ w'.cell? ⟨ad31.block, ad31.off + 4, none⟩ = some (.string ((rd_T65 t19 0).f3.f1)) ∧ w'.cell? ⟨ad31.block, ad31.off + 5, none⟩ = some (.int .i64 ((rd_T65 t19 0).f4)) ∧ w'.cell? ⟨ad31.block, ad31.off + 6, none⟩ = some (.slice A33_6 ((rd_T65 t19 0).f5).length c33_6)) [] laws_FnGossiped.tab8 laws_FnGossiped.bits8 ⟨bc0_ BK18.out, bc1_ BK18.out, bc2_ BK18.out, bc3_ BK18.out, bc4_ BK18.out, bc5_ BK18.out, bc6_ BK18.out, bc7_ BK18.out, hx31_0, hx31_1, hx31_2, hx31_3, hx31_4, hx31_5, hx31_6, hx33_0, hx33_1, hx33_2, hx33_3, hx33_4, hx33_5, hx33_6, hx34_0, hx34_1, hx34_2, hx34_3, hx34_4, hx34_5, hx34_6, hx35_0, hx35_1, hx35_2, hx35_3, hx35_4, hx35_5, hx35_6⟩ (fun hHeld HT_ HW_ => ?_)
        generalize wc.drew = w59 at HO_6 HO_7 HO_19001 HO_19004 BK18 HB HL31_6 HL33_6 HL34_6 HL35_6 HR31_6 HR33_6 HR34_6 HR35_6 hx31_0 hx31_1 hx31_2 hx31_3 hx31_4 hx31_5 hx31_6 hx33_0 hx33_1 hx33_2 hx33_3 hx33_4 hx33_5 hx33_6 hx34_0 hx34_1 hx34_2 hx34_3 hx34_4 hx34_5 hx34_6 hx35_0 hx35_1 hx35_2 hx35_3 hx35_4 hx35_5 hx35_6 hHeld ⊢
        refine pt_ 0 54 1 ?_
        refine pt_ 1 55 3 ?_
        refine pt_ 2 56 7 ?_
        refine pt_ 3 57 15 ?_
        refine pt_ 4 58 31 ?_
        refine pt_ 5 59 63 ?_
        refine tt_ 6 60 127 ?_
        refine oz_ 7 61 34 255 (fun K hK => ?_)
        refine ge_ Tryz.func35 #[.agg #[.int .i64 ((rd_T65 t19 0).f0), .int .i64 ((rd_T65 t19 0).f1), .int .i64 ((rd_T65 t19 0).f2), .int .i64 ((rd_T65 t19 0).f3.f0), .string ((rd_T65 t19 0).f3.f1), .int .i64 ((rd_T65 t19 0).f4), .slice A31_6 ((rd_T65 t19 0).f5).length c31_6]] ?_
        with_reducible refine (impl_MsgOk.calls kj6 ((rd_T65 t19 0).f0) ((rd_T65 t19 0).f1) ((rd_T65 t19 0).f2) ((rd_T65 t19 0).f3.f0) ((rd_T65 t19 0).f3.f1) ((rd_T65 t19 0).f4) _ _ ((rd_T65 t19 0).f5) true _ ?side1 ?side2 A53.out).mono ?_
        (case side1 => exact cr_ (by repeat (first | (with_reducible exact HR31_6.out) | (with_reducible refine Kd.C_alloc ?_ _) | (with_reducible refine Kd.C_drewN ?_ _) | (with_reducible refine Kd.C_drew ?_) | exact HR31_6.out)))
        (case side2 => exact HC31_6.out)
        rintro e w61 ⟨rfl, hb⟩
        have hbS := hb
        refine ⟨_, rfl, ?_⟩
        replace HO_6 := am_ (Kd.S_below (by (with_reducible repeat (first | apply Kd.S_alloc | apply Kd.S_drewN | apply Kd.S_drew)); exact HO_6.out) hb)
        replace HO_7 := am_ (Kd.S_below (by (with_reducible repeat (first | apply Kd.S_alloc | apply Kd.S_drewN | apply Kd.S_drew)); exact HO_7.out) hb)
        replace HL31_6 := rb_ HL31_6 hb
        replace BK18 := kl_ BK18 hb
        replace HR31_6 := am_ (Kd.C_below (by repeat (first | (with_reducible exact HR31_6.out) | (with_reducible refine Kd.C_alloc ?_ _) | (with_reducible refine Kd.C_drewN ?_ _) | (with_reducible refine Kd.C_drew ?_) | exact HR31_6.out)) hb)
        replace HB := ss_ HB hb
        clear hb
        refine hK.out _ _ ⟨bc0_ BK18.out, bc1_ BK18.out, bc2_ BK18.out, bc3_ BK18.out, bc4_ BK18.out, bc5_ BK18.out, bc6_ BK18.out, bc7_ BK18.out, hs_ hbS hHeld.2.2.2.2.2.2.2.2⟩ (fun hHeld => ?_)
        clear hK K
        refine no_ 61 ?_
        refine pt_ 8 62 511 ?_
        refine pt_ 9 63 1023 ?_
        refine pt_ 10 64 2047 ?_
        refine pt_ 11 65 4095 ?_
        refine pt_ 12 66 8191 ?_
        refine pt_ 14 68 24575 ?_
        refine tt_ 13 67 32767 ?_
        refine tt_ 15 69 65535 ?_
        refine pt_ 16 70 131071 ?_
        refine pt_ 17 71 262143 ?_
        refine pt_ 18 72 524287 ?_
        refine pt_ 19 73 1048575 ?_
        refine pt_ 20 74 2097151 ?_
        refine pt_ 21 75 4194303 ?_
        refine tt_ 22 76 8388607 ?_
        refine pt_ 23 77 16777215 ?_
        refine pt_ 24 78 33554431 ?_
        refine pt_ 25 79 67108863 ?_
        refine pt_ 26 80 134217727 ?_
        refine pt_ 27 81 268435455 ?_
        refine pt_ 28 82 536870911 ?_
        refine pt_ 30 84 1610612735 ?_
        refine tt_ 29 83 2147483647 ?_
        refine pt_ 31 85 4294967295 ?_
        refine pt_ 32 86 8589934591 ?_
        refine pt_ 33 87 17179869183 ?_
        refine dn_ ?_
        try go_wp2
        replace HO_6 := am_ (Kd.S_drew HO_6.out)
        replace HO_7 := am_ (Kd.S_drew HO_7.out)
        replace HL31_6 := am_ (Kd.R_drew HL31_6.out)
        replace HL33_6 := am_ (Kd.R_drew HL33_6.out)
        replace HL34_6 := am_ (Kd.R_drew HL34_6.out)
        replace HL35_6 := am_ (Kd.R_drew HL35_6.out)
        replace BK18 := bd_ BK18
        replace HR31_6 := am_ (Kd.C_drew HR31_6.out)
        replace HR33_6 := am_ (Kd.C_drew HR33_6.out)
        replace HR34_6 := am_ (Kd.C_drew HR34_6.out)
        replace HR35_6 := am_ (Kd.C_drew HR35_6.out)
        replace HB := hd_ HB
        obtain ⟨Ao63, co63, eo63⟩ := Kd.S_slice HO_7.out
        (first | subst eo63 | (injection eo63 with f1_ f2_ f3_; have f4_ := f1_.symm; have f5_ := f3_.symm; clear f1_ f2_ f3_; subst f4_; subst f5_))
        refine sw_ 38 (fun w' => True) [] laws_FnGossiped.tab10 laws_FnGossiped.bits10 trivial (fun hHeld HT_ HW_ => ?_)
        generalize w61.drew = w62 at HO_6 HO_7 HO_19001 HO_19004 HL31_6 HL33_6 HL34_6 HL35_6 BK18 HR31_6 HR33_6 HR34_6 HR35_6 HB hHeld ⊢
        refine pt_ 0 88 1 ?_
        refine pt_ 1 89 3 ?_
        refine pt_ 2 90 7 ?_
        refine pt_ 3 91 15 ?_
        refine ut_ 4 92 31 ?_
        refine ut_ 5 93 63 ?_
        refine ut_ 6 94 127 ?_
        refine ut_ 7 95 255 ?_
        refine ut_ 8 96 511 ?_
        refine ut_ 9 97 1023 ?_
        refine ut_ 10 98 2047 ?_
        refine ut_ 11 99 4095 ?_
        refine ut_ 12 100 8191 ?_
        refine ut_ 13 101 16383 ?_
        refine ut_ 14 102 32767 ?_
        refine ut_ 15 103 65535 ?_
        refine ut_ 16 104 131071 ?_
        refine ut_ 17 105 262143 ?_
        refine ut_ 18 106 524287 ?_
        refine ut_ 19 107 1048575 ?_
        refine ut_ 20 108 2097151 ?_
        refine ut_ 21 109 4194303 ?_
        refine ut_ 22 110 8388607 ?_
        refine ut_ 23 111 16777215 ?_
        refine ut_ 24 112 33554431 ?_
        refine ut_ 25 113 67108863 ?_
        refine ut_ 26 114 134217727 ?_
        refine ut_ 27 115 268435455 ?_
        refine ut_ 28 116 536870911 ?_
        refine ut_ 29 117 1073741823 ?_
        refine ut_ 30 118 2147483647 ?_
        refine ut_ 31 119 4294967295 ?_
        refine ut_ 32 120 8589934591 ?_
        refine ut_ 33 121 17179869183 ?_
        refine ut_ 34 122 34359738367 ?_
        refine ut_ 35 123 68719476735 ?_
        refine pt_ 36 124 137438953471 ?_
        refine pt_ 37 2 274877906943 ?_
        refine dn_ ?_
        try go_wp2
        go_ret
        exact ⟨e2_, bw_ HB⟩
       ·have c58b0 : ((t22.length : Int) == 0) = false := beq_eq_false_iff_ne.mpr c58
        have c58b1 : ((t22.length : Int) != 0) = true := bne_iff_ne.mpr c58
        have c58b2 : ¬ (t22 = []) := fun h_ => c58 (by rw [h_]; rfl)
        replace H := ip_ H; obtain ⟨c64, H⟩ := H
        have c64b0 := decide_eq_true c64
        have c64b1 : decide (0 < t22.length) = true := decide_eq_true (by omega)
        clear c64
        replace H := bi_ H; obtain ⟨t37, A65, H⟩ := H
        replace H := ipb_ H; obtain ⟨rfl, H⟩ := H
        replace H := it_ H; obtain ⟨c67, H⟩ | ⟨c67, H⟩ := H
        ·have c67b0 : (((rd_T65 t22 0).f4) == (t3.length : Int)) = true := beq_iff_eq.mpr c67
         have c67b1 : (((rd_T65 t22 0).f4) != (t3.length : Int)) = false := bne_eq_false_iff_eq.mpr c67
         clear c67
         replace H := it_ H; obtain ⟨c68, H⟩ | ⟨c68, H⟩ := H
         ·have c68b0 : (((rd_T65 t22 0).f3.f0) == t12 && ((((rd_T65 t22 0).f3.f1).toList) == t13.toList)) = true := c68
          (try (have c68b1 : decide (((rd_T65 t22 0).f3.f0) = t12 && ((((rd_T65 t22 0).f3.f1).toList) == t13.toList)) = true := by simpa using c68))
          (try (have c68b2 : (((rd_T65 t22 0).f3.f0) == t12 && ((((rd_T65 t22 0).f3.f1).toList) == t13.toList)) = true := by simpa using c68))
          clear c68
          obtain rfl := Option.some.inj H
          try go_wp2
          replace HO_6 := am_ (Kd.S_drew HO_6.out)
          replace HO_7 := am_ (Kd.S_drew HO_7.out)
          replace BK18 := bd_ BK18
          replace HB := hd_ HB
          obtain ⟨Ao70, co70, eo70⟩ := Kd.S_slice HO_6.out
          (first | subst eo70 | (injection eo70 with f1_ f2_ f3_; have f4_ := f1_.symm; have f5_ := f3_.symm; clear f1_ f2_ f3_; subst f4_; subst f5_))
          have p31 : 0 ≤ (0 : Int) := (by omega)
          have q31 : 0 < (t19.length : Int) := od_
          obtain ⟨ad31, A31_6, c31_6, e31, hx31_0, hx31_1, hx31_2, hx31_3, hx31_4, hx31_5, hx31_6, hl31_6, hi31_6⟩ := at_T65 (Kd.S_reads' HO_6.out).2.2 0 p31 q31
          cases e31
          obtain ⟨ce31, hce31, hMe31, hcc31⟩ := Kd.S_get HO_6.out z65 0 p31 (by first | exact q31 | exact od_ | (have e_ := (Kd.S_reads' HO_6.out).1; omega))
          obtain ⟨ve31_6, rfl, ge31_6⟩ := k65_openM hMe31
          have hv31_6 := hcc31 6 _ rfl
          rw [add_field _ _ 6 (by omega)] at hv31_6
          replace hv31_6 := Option.some.inj (hv31_6.symm.trans hx31_6)
          rw [hv31_6] at ge31_6
          have HL31_6 := am_ (show Kd.R Kd.string 9 _ _ _ _ ((rd_T65 t19 0).f5) from ge31_6)
          clear hv31_6 ge31_6
          clear hcc31 hce31
          have qi31 : (0 < t19.length) = True := eq_true (by omega)
          rw [show ((0 : Int)).toNat = 0 from rfl, show 0 * 7 = 0 from rfl] at hx31_0 hx31_1 hx31_2 hx31_3 hx31_4 hx31_5 hx31_6
          (try rw [Addr.add_zero'] at hx31_0)
          have HR31_6 := am_ hi31_6
          have HC31_6 := am_ hl31_6
          clear hi31_6 hl31_6
          replace p31 := eq_true p31
          replace q31 := eq_true q31
          have p33 : 0 ≤ (0 : Int) := (by omega)
          have q33 : 0 < (t19.length : Int) := od_
          obtain ⟨ad33, A33_6, c33_6, e33, hx33_0, hx33_1, hx33_2, hx33_3, hx33_4, hx33_5, hx33_6, hl33_6, hi33_6⟩ := at_T65 (Kd.S_reads' HO_6.out).2.2 0 p33 q33
          obtain rfl : ad31 = ad33 := (by injection e33)
          obtain ⟨ce33, hce33, hMe33, hcc33⟩ := Kd.S_get HO_6.out z65 0 p33 (by first | exact q33 | exact od_ | (have e_ := (Kd.S_reads' HO_6.out).1; omega))
          obtain ⟨ve33_6, rfl, ge33_6⟩ := k65_openM hMe33
          have hv33_6 := hcc33 6 _ rfl
          rw [add_field _ _ 6 (by omega)] at hv33_6
          replace hv33_6 := Option.some.inj (hv33_6.symm.trans hx33_6)
          rw [hv33_6] at ge33_6
          have HL33_6 := am_ (show Kd.R Kd.string 9 _ _ _ _ ((rd_T65 t19 0).f5) from ge33_6)
          clear hv33_6 ge33_6
          clear hcc33 hce33
          have qi33 : (0 < t19.length) = True := eq_true (by omega)
          rw [show ((0 : Int)).toNat = 0 from rfl, show 0 * 7 = 0 from rfl] at hx33_0 hx33_1 hx33_2 hx33_3 hx33_4 hx33_5 hx33_6
          (try rw [Addr.add_zero'] at hx33_0)
          have HR33_6 := am_ hi33_6
          have HC33_6 := am_ hl33_6
          clear hi33_6 hl33_6
          replace p33 := eq_true p33
          replace q33 := eq_true q33
          have p34 : 0 ≤ (0 : Int) := (by omega)
          have q34 : 0 < (t19.length : Int) := od_
          obtain ⟨ad34, A34_6, c34_6, e34, hx34_0, hx34_1, hx34_2, hx34_3, hx34_4, hx34_5, hx34_6, hl34_6, hi34_6⟩ := at_T65 (Kd.S_reads' HO_6.out).2.2 0 p34 q34
          obtain rfl : ad31 = ad34 := (by injection e34)
          obtain ⟨ce34, hce34, hMe34, hcc34⟩ := Kd.S_get HO_6.out z65 0 p34 (by first | exact q34 | exact od_ | (have e_ := (Kd.S_reads' HO_6.out).1; omega))
          obtain ⟨ve34_6, rfl, ge34_6⟩ := k65_openM hMe34
          have hv34_6 := hcc34 6 _ rfl
          rw [add_field _ _ 6 (by omega)] at hv34_6
          replace hv34_6 := Option.some.inj (hv34_6.symm.trans hx34_6)
          rw [hv34_6] at ge34_6
          have HL34_6 := am_ (show Kd.R Kd.string 9 _ _ _ _ ((rd_T65 t19 0).f5) from ge34_6)
          clear hv34_6 ge34_6
          clear hcc34 hce34
          have qi34 : (0 < t19.length) = True := eq_true (by omega)
          rw [show ((0 : Int)).toNat = 0 from rfl, show 0 * 7 = 0 from rfl] at hx34_0 hx34_1 hx34_2 hx34_3 hx34_4 hx34_5 hx34_6
          (try rw [Addr.add_zero'] at hx34_0)
          have HR34_6 := am_ hi34_6
          have HC34_6 := am_ hl34_6
          clear hi34_6 hl34_6
          replace p34 := eq_true p34
          replace q34 := eq_true q34
          have ea_ := Option.some.inj (hx33_6.symm.trans hx34_6)
          injection ea_ with ea_ en_ ec_
          subst ea_
          subst ec_
          clear en_
          have p35 : 0 ≤ (0 : Int) := (by omega)
          have q35 : 0 < (t19.length : Int) := od_
          obtain ⟨ad35, A35_6, c35_6, e35, hx35_0, hx35_1, hx35_2, hx35_3, hx35_4, hx35_5, hx35_6, hl35_6, hi35_6⟩ := at_T65 (Kd.S_reads' HO_6.out).2.2 0 p35 q35
          obtain rfl : ad31 = ad35 := (by injection e35)
          obtain ⟨ce35, hce35, hMe35, hcc35⟩ := Kd.S_get HO_6.out z65 0 p35 (by first | exact q35 | exact od_ | (have e_ := (Kd.S_reads' HO_6.out).1; omega))
          obtain ⟨ve35_6, rfl, ge35_6⟩ := k65_openM hMe35
          have hv35_6 := hcc35 6 _ rfl
          rw [add_field _ _ 6 (by omega)] at hv35_6
          replace hv35_6 := Option.some.inj (hv35_6.symm.trans hx35_6)
          rw [hv35_6] at ge35_6
          have HL35_6 := am_ (show Kd.R Kd.string 9 _ _ _ _ ((rd_T65 t19 0).f5) from ge35_6)
          clear hv35_6 ge35_6
          clear hcc35 hce35
          have qi35 : (0 < t19.length) = True := eq_true (by omega)
          rw [show ((0 : Int)).toNat = 0 from rfl, show 0 * 7 = 0 from rfl] at hx35_0 hx35_1 hx35_2 hx35_3 hx35_4 hx35_5 hx35_6
          (try rw [Addr.add_zero'] at hx35_0)
          have HR35_6 := am_ hi35_6
          have HC35_6 := am_ hl35_6
          clear hi35_6 hl35_6
          replace p35 := eq_true p35
          replace q35 := eq_true q35
          have ea_ := Option.some.inj (hx33_6.symm.trans hx35_6)
          injection ea_ with ea_ en_ ec_
          subst ea_
          subst ec_
          clear en_
          refine sw_ 34 (fun w' => w'.cell? ⟨gb18, 0, none⟩ = some (.int .i64 t602) ∧ w'.cell? ⟨gb18, 1, none⟩ = some (.slice Ao11 t3.length co11) ∧ w'.cell? ⟨gb18, 2, none⟩ = some (.int .i64 t6) ∧ w'.cell? ⟨gb18, 3, none⟩ = some (.string t7) ∧ w'.cell? ⟨gb18, 4, none⟩ = some (.slice Ao12 t8.length co12) ∧ w'.cell? ⟨gb18, 5, none⟩ = some (.int .i64 t11) ∧ w'.cell? ⟨gb18, 6, none⟩ = some (.int .i64 t12) ∧ w'.cell? ⟨gb18, 7, none⟩ = some (.string t13) ∧ w'.cell? ad31 = some (.int .i64 ((rd_T65 t19 0).f0)) ∧ w'.cell? ⟨ad31.block, ad31.off + 1, none⟩ = some (.int .i64 ((rd_T65 t19 0).f1)) ∧ w'.cell? ⟨ad31.block, ad31.off + 2, none⟩ = some (.int .i64 ((rd_T65 t19 0).f2)) ∧ w'.cell? ⟨ad31.block, ad31.off + 3, none⟩ = some (.int .i64 ((rd_T65 t19 0).f3.f0)) ∧ w'.cell? ⟨ad31.block, ad31.off + 4, none⟩ = some (.string ((rd_T65 t19 0).f3.f1)) ∧ w'.cell? ⟨ad31.block, ad31.off + 5, none⟩ = some (.int .i64 ((rd_T65 t19 0).f4)) ∧ w'.cell? ⟨ad31.block, ad31.off + 6, none⟩ = some (.slice A31_6 ((rd_T65 t19 0).f5).length c31_6) ∧ w'.cell? ad31 = some (.int .i64 ((rd_T65 t19 0).f0)) ∧ w'.cell? ⟨ad31.block, ad31.off + 1, none⟩ = some (.int .i64 ((rd_T65 t19 0).f1)) ∧ w'.cell? ⟨ad31.block, ad31.off + 2, none⟩ = some (.int .i64 ((rd_T65 t19 0).f2)) ∧ w'.cell? ⟨ad31.block, ad31.off + 3, none⟩ = some (.int .i64 ((rd_T65 t19 0).f3.f0)) ∧ w'.cell? ⟨ad31.block, ad31.off + 4, none⟩ = some (.string ((rd_T65 t19 0).f3.f1)) ∧ w'.cell? ⟨ad31.block, ad31.off + 5, none⟩ = some (.int .i64 ((rd_T65 t19 0).f4)) ∧ w'.cell? ⟨ad31.block, ad31.off + 6, none⟩ = some (.slice A33_6 ((rd_T65 t19 0).f5).length c33_6) ∧ w'.cell? ad31 = some (.int .i64 ((rd_T65 t19 0).f0)) ∧ w'.cell? ⟨ad31.block, ad31.off + 1, none⟩ = some (.int .i64 ((rd_T65 t19 0).f1)) ∧ w'.cell? ⟨ad31.block, ad31.off + 2, none⟩ = some (.int .i64 ((rd_T65 t19 0).f2)) ∧ w'.cell? ⟨ad31.block, ad31.off + 3, none⟩ = some (.int .i64 ((rd_T65 t19 0).f3.f0)) ∧ w'.cell? ⟨ad31.block, ad31.off + 4, none⟩ = some (.string ((rd_T65 t19 0).f3.f1)) ∧ w'.cell? ⟨ad31.block, ad31.off + 5, none⟩ = some (.int .i64 ((rd_T65 t19 0).f4)) ∧ w'.cell? ⟨ad31.block, ad31.off + 6, none⟩ = some (.slice A33_6 ((rd_T65 t19 0).f5).length c33_6) ∧ w'.cell? ad31 = some (.int .i64 ((rd_T65 t19 0).f0)) ∧ w'.cell? ⟨ad31.block, ad31.off + 1, none⟩ = some (.int .i64 ((rd_T65 t19 0).f1)) ∧ w'.cell? ⟨ad31.block, ad31.off + 2, none⟩ = some (.int .i64 ((rd_T65 t19 0).f2)) ∧ w'.cell? ⟨ad31.block, ad31.off + 3, none⟩ = some (.int .i64 ((rd_T65 t19 0).f3.f0)) ∧ w'.cell? ⟨ad31.block, ad31.off + 4, none⟩ = some (.string ((rd_T65 t19 0).f3.f1)) ∧ w'.cell? ⟨ad31.block, ad31.off + 5, none⟩ = some (.int .i64 ((rd_T65 t19 0).f4)) ∧ w'.cell? ⟨ad31.block, ad31.off + 6, none⟩ = some (.slice A33_6 ((rd_T65 t19 0).f5).length c33_6)) [] laws_FnGossiped.tab8 laws_FnGossiped.bits8 ⟨bc0_ BK18.out, bc1_ BK18.out, bc2_ BK18.out, bc3_ BK18.out, bc4_ BK18.out, bc5_ BK18.out, bc6_ BK18.out, bc7_ BK18.out, hx31_0, hx31_1, hx31_2, hx31_3, hx31_4, hx31_5, hx31_6, hx33_0, hx33_1, hx33_2, hx33_3, hx33_4, hx33_5, hx33_6, hx34_0, hx34_1, hx34_2, hx34_3, hx34_4, hx34_5, hx34_6, hx35_0, hx35_1, hx35_2, hx35_3, hx35_4, hx35_5, hx35_6⟩ (fun hHeld HT_ HW_ => ?_)
          generalize wc.drew = w69 at HO_6 HO_7 HO_19001 HO_19004 BK18 HB HL31_6 HL33_6 HL34_6 HL35_6 HR31_6 HR33_6 HR34_6 HR35_6 hx31_0 hx31_1 hx31_2 hx31_3 hx31_4 hx31_5 hx31_6 hx33_0 hx33_1 hx33_2 hx33_3 hx33_4 hx33_5 hx33_6 hx34_0 hx34_1 hx34_2 hx34_3 hx34_4 hx34_5 hx34_6 hx35_0 hx35_1 hx35_2 hx35_3 hx35_4 hx35_5 hx35_6 hHeld ⊢
          refine pt_ 0 54 1 ?_
          refine pt_ 1 55 3 ?_
          refine pt_ 2 56 7 ?_
          refine pt_ 3 57 15 ?_
          refine pt_ 4 58 31 ?_
          refine pt_ 5 59 63 ?_
          refine tt_ 6 60 127 ?_
          refine oz_ 7 61 34 255 (fun K hK => ?_)
          refine ge_ Tryz.func35 #[.agg #[.int .i64 ((rd_T65 t19 0).f0), .int .i64 ((rd_T65 t19 0).f1), .int .i64 ((rd_T65 t19 0).f2), .int .i64 ((rd_T65 t19 0).f3.f0), .string ((rd_T65 t19 0).f3.f1), .int .i64 ((rd_T65 t19 0).f4), .slice A31_6 ((rd_T65 t19 0).f5).length c31_6]] ?_
          with_reducible refine (impl_MsgOk.calls kj6 ((rd_T65 t19 0).f0) ((rd_T65 t19 0).f1) ((rd_T65 t19 0).f2) ((rd_T65 t19 0).f3.f0) ((rd_T65 t19 0).f3.f1) ((rd_T65 t19 0).f4) _ _ ((rd_T65 t19 0).f5) true _ ?side1 ?side2 A53.out).mono ?_
          (case side1 => exact cr_ (by repeat (first | (with_reducible exact HR31_6.out) | (with_reducible refine Kd.C_alloc ?_ _) | (with_reducible refine Kd.C_drewN ?_ _) | (with_reducible refine Kd.C_drew ?_) | exact HR31_6.out)))
          (case side2 => exact HC31_6.out)
          rintro e w71 ⟨rfl, hb⟩
          have hbS := hb
          refine ⟨_, rfl, ?_⟩
          replace HO_6 := am_ (Kd.S_below (by (with_reducible repeat (first | apply Kd.S_alloc | apply Kd.S_drewN | apply Kd.S_drew)); exact HO_6.out) hb)
          replace HO_7 := am_ (Kd.S_below (by (with_reducible repeat (first | apply Kd.S_alloc | apply Kd.S_drewN | apply Kd.S_drew)); exact HO_7.out) hb)
          replace BK18 := kl_ BK18 hb
          replace HB := ss_ HB hb
          clear hb
          refine hK.out _ _ ⟨bc0_ BK18.out, bc1_ BK18.out, bc2_ BK18.out, bc3_ BK18.out, bc4_ BK18.out, bc5_ BK18.out, bc6_ BK18.out, bc7_ BK18.out, hs_ hbS hHeld.2.2.2.2.2.2.2.2⟩ (fun hHeld => ?_)
          clear hK K
          refine no_ 61 ?_
          refine pt_ 8 62 511 ?_
          refine pt_ 9 63 1023 ?_
          refine pt_ 10 64 2047 ?_
          refine pt_ 11 65 4095 ?_
          refine pt_ 12 66 8191 ?_
          refine pt_ 14 68 24575 ?_
          refine tt_ 13 67 32767 ?_
          refine tt_ 15 69 65535 ?_
          refine pt_ 16 70 131071 ?_
          refine pt_ 17 71 262143 ?_
          refine pt_ 18 72 524287 ?_
          refine pt_ 19 73 1048575 ?_
          refine pt_ 20 74 2097151 ?_
          refine pt_ 21 75 4194303 ?_
          refine tt_ 22 76 8388607 ?_
          refine pt_ 23 77 16777215 ?_
          refine pt_ 24 78 33554431 ?_
          refine pt_ 25 79 67108863 ?_
          refine pt_ 26 80 134217727 ?_
          refine pt_ 27 81 268435455 ?_
          refine pt_ 28 82 536870911 ?_
          refine pt_ 30 84 1610612735 ?_
          refine tt_ 29 83 2147483647 ?_
          refine pt_ 31 85 4294967295 ?_
          refine pt_ 32 86 8589934591 ?_
          refine pt_ 33 87 17179869183 ?_
          refine dn_ ?_
          try go_wp2
          replace HO_6 := am_ (Kd.S_drew HO_6.out)
          replace HO_7 := am_ (Kd.S_drew HO_7.out)
          replace BK18 := bd_ BK18
          replace HB := hd_ HB
          obtain ⟨Ao73, co73, eo73⟩ := Kd.S_slice HO_7.out
          (first | subst eo73 | (injection eo73 with f1_ f2_ f3_; have f4_ := f1_.symm; have f5_ := f3_.symm; clear f1_ f2_ f3_; subst f4_; subst f5_))
          have p36 : 0 ≤ (0 : Int) := (by omega)
          have q36 : 0 < (t22.length : Int) := od_
          obtain ⟨ad36, A36_6, c36_6, e36, hx36_0, hx36_1, hx36_2, hx36_3, hx36_4, hx36_5, hx36_6, hl36_6, hi36_6⟩ := at_T65 (Kd.S_reads' HO_7.out).2.2 0 p36 q36
          cases e36
          obtain ⟨ce36, hce36, hMe36, hcc36⟩ := Kd.S_get HO_7.out z65 0 p36 (by first | exact q36 | exact od_ | (have e_ := (Kd.S_reads' HO_7.out).1; omega))
          obtain ⟨ve36_6, rfl, ge36_6⟩ := k65_openM hMe36
          have hv36_6 := hcc36 6 _ rfl
          rw [add_field _ _ 6 (by omega)] at hv36_6
          replace hv36_6 := Option.some.inj (hv36_6.symm.trans hx36_6)
          rw [hv36_6] at ge36_6
          have HL36_6 := am_ (show Kd.R Kd.string 9 _ _ _ _ ((rd_T65 t22 0).f5) from ge36_6)
          clear hv36_6 ge36_6
          clear hcc36 hce36
          have qi36 : (0 < t22.length) = True := eq_true (by omega)
          rw [show ((0 : Int)).toNat = 0 from rfl, show 0 * 7 = 0 from rfl] at hx36_0 hx36_1 hx36_2 hx36_3 hx36_4 hx36_5 hx36_6
          (try rw [Addr.add_zero'] at hx36_0)
          have HR36_6 := am_ hi36_6
          have HC36_6 := am_ hl36_6
          clear hi36_6 hl36_6
          replace p36 := eq_true p36
          replace q36 := eq_true q36
          have p38 : 0 ≤ (0 : Int) := (by omega)
          have q38 : 0 < (t22.length : Int) := od_
          obtain ⟨ad38, A38_6, c38_6, e38, hx38_0, hx38_1, hx38_2, hx38_3, hx38_4, hx38_5, hx38_6, hl38_6, hi38_6⟩ := at_T65 (Kd.S_reads' HO_7.out).2.2 0 p38 q38
          obtain rfl : ad36 = ad38 := (by injection e38)
          obtain ⟨ce38, hce38, hMe38, hcc38⟩ := Kd.S_get HO_7.out z65 0 p38 (by first | exact q38 | exact od_ | (have e_ := (Kd.S_reads' HO_7.out).1; omega))
          obtain ⟨ve38_6, rfl, ge38_6⟩ := k65_openM hMe38
          have hv38_6 := hcc38 6 _ rfl
          rw [add_field _ _ 6 (by omega)] at hv38_6
          replace hv38_6 := Option.some.inj (hv38_6.symm.trans hx38_6)
          rw [hv38_6] at ge38_6
          have HL38_6 := am_ (show Kd.R Kd.string 9 _ _ _ _ ((rd_T65 t22 0).f5) from ge38_6)
          clear hv38_6 ge38_6
          clear hcc38 hce38
          have qi38 : (0 < t22.length) = True := eq_true (by omega)
          rw [show ((0 : Int)).toNat = 0 from rfl, show 0 * 7 = 0 from rfl] at hx38_0 hx38_1 hx38_2 hx38_3 hx38_4 hx38_5 hx38_6
          (try rw [Addr.add_zero'] at hx38_0)
          have HR38_6 := am_ hi38_6
          have HC38_6 := am_ hl38_6
          clear hi38_6 hl38_6
          replace p38 := eq_true p38
          replace q38 := eq_true q38
          have p39 : 0 ≤ (0 : Int) := (by omega)
          have q39 : 0 < (t22.length : Int) := od_
          obtain ⟨ad39, A39_6, c39_6, e39, hx39_0, hx39_1, hx39_2, hx39_3, hx39_4, hx39_5, hx39_6, hl39_6, hi39_6⟩ := at_T65 (Kd.S_reads' HO_7.out).2.2 0 p39 q39
          obtain rfl : ad36 = ad39 := (by injection e39)
          obtain ⟨ce39, hce39, hMe39, hcc39⟩ := Kd.S_get HO_7.out z65 0 p39 (by first | exact q39 | exact od_ | (have e_ := (Kd.S_reads' HO_7.out).1; omega))
          obtain ⟨ve39_6, rfl, ge39_6⟩ := k65_openM hMe39
          have hv39_6 := hcc39 6 _ rfl
          rw [add_field _ _ 6 (by omega)] at hv39_6
          replace hv39_6 := Option.some.inj (hv39_6.symm.trans hx39_6)
          rw [hv39_6] at ge39_6
          have HL39_6 := am_ (show Kd.R Kd.string 9 _ _ _ _ ((rd_T65 t22 0).f5) from ge39_6)
          clear hv39_6 ge39_6
          clear hcc39 hce39
          have qi39 : (0 < t22.length) = True := eq_true (by omega)
          rw [show ((0 : Int)).toNat = 0 from rfl, show 0 * 7 = 0 from rfl] at hx39_0 hx39_1 hx39_2 hx39_3 hx39_4 hx39_5 hx39_6
          (try rw [Addr.add_zero'] at hx39_0)
          have HR39_6 := am_ hi39_6
          have HC39_6 := am_ hl39_6
          clear hi39_6 hl39_6
          replace p39 := eq_true p39
          replace q39 := eq_true q39
          have ea_ := Option.some.inj (hx38_6.symm.trans hx39_6)
          injection ea_ with ea_ en_ ec_
          subst ea_
          subst ec_
          clear en_
          have p40 : 0 ≤ (0 : Int) := (by omega)
          have q40 : 0 < (t22.length : Int) := od_
          obtain ⟨ad40, A40_6, c40_6, e40, hx40_0, hx40_1, hx40_2, hx40_3, hx40_4, hx40_5, hx40_6, hl40_6, hi40_6⟩ := at_T65 (Kd.S_reads' HO_7.out).2.2 0 p40 q40
          obtain rfl : ad36 = ad40 := (by injection e40)
          obtain ⟨ce40, hce40, hMe40, hcc40⟩ := Kd.S_get HO_7.out z65 0 p40 (by first | exact q40 | exact od_ | (have e_ := (Kd.S_reads' HO_7.out).1; omega))
          obtain ⟨ve40_6, rfl, ge40_6⟩ := k65_openM hMe40
          have hv40_6 := hcc40 6 _ rfl
          rw [add_field _ _ 6 (by omega)] at hv40_6
          replace hv40_6 := Option.some.inj (hv40_6.symm.trans hx40_6)
          rw [hv40_6] at ge40_6
          have HL40_6 := am_ (show Kd.R Kd.string 9 _ _ _ _ ((rd_T65 t22 0).f5) from ge40_6)
          clear hv40_6 ge40_6
          clear hcc40 hce40
          have qi40 : (0 < t22.length) = True := eq_true (by omega)
          rw [show ((0 : Int)).toNat = 0 from rfl, show 0 * 7 = 0 from rfl] at hx40_0 hx40_1 hx40_2 hx40_3 hx40_4 hx40_5 hx40_6
          (try rw [Addr.add_zero'] at hx40_0)
          have HR40_6 := am_ hi40_6
          have HC40_6 := am_ hl40_6
          clear hi40_6 hl40_6
          replace p40 := eq_true p40
          replace q40 := eq_true q40
          have ea_ := Option.some.inj (hx38_6.symm.trans hx40_6)
          injection ea_ with ea_ en_ ec_
          subst ea_
          subst ec_
          clear en_
          refine sw_ 38 (fun w' => w'.cell? ⟨gb18, 0, none⟩ = some (.int .i64 t602) ∧ w'.cell? ⟨gb18, 1, none⟩ = some (.slice Ao11 t3.length co11) ∧ w'.cell? ⟨gb18, 2, none⟩ = some (.int .i64 t6) ∧ w'.cell? ⟨gb18, 3, none⟩ = some (.string t7) ∧ w'.cell? ⟨gb18, 4, none⟩ = some (.slice Ao12 t8.length co12) ∧ w'.cell? ⟨gb18, 5, none⟩ = some (.int .i64 t11) ∧ w'.cell? ⟨gb18, 6, none⟩ = some (.int .i64 t12) ∧ w'.cell? ⟨gb18, 7, none⟩ = some (.string t13) ∧ w'.cell? ad36 = some (.int .i64 ((rd_T65 t22 0).f0)) ∧ w'.cell? ⟨ad36.block, ad36.off + 1, none⟩ = some (.int .i64 ((rd_T65 t22 0).f1)) ∧ w'.cell? ⟨ad36.block, ad36.off + 2, none⟩ = some (.int .i64 ((rd_T65 t22 0).f2)) ∧ w'.cell? ⟨ad36.block, ad36.off + 3, none⟩ = some (.int .i64 ((rd_T65 t22 0).f3.f0)) ∧ w'.cell? ⟨ad36.block, ad36.off + 4, none⟩ = some (.string ((rd_T65 t22 0).f3.f1)) ∧ w'.cell? ⟨ad36.block, ad36.off + 5, none⟩ = some (.int .i64 ((rd_T65 t22 0).f4)) ∧ w'.cell? ⟨ad36.block, ad36.off + 6, none⟩ = some (.slice A36_6 ((rd_T65 t22 0).f5).length c36_6) ∧ w'.cell? ad36 = some (.int .i64 ((rd_T65 t22 0).f0)) ∧ w'.cell? ⟨ad36.block, ad36.off + 1, none⟩ = some (.int .i64 ((rd_T65 t22 0).f1)) ∧ w'.cell? ⟨ad36.block, ad36.off + 2, none⟩ = some (.int .i64 ((rd_T65 t22 0).f2)) ∧ w'.cell? ⟨ad36.block, ad36.off + 3, none⟩ = some (.int .i64 ((rd_T65 t22 0).f3.f0)) ∧ w'.cell? ⟨ad36.block, ad36.off + 4, none⟩ = some (.string ((rd_T65 t22 0).f3.f1)) ∧ w'.cell? ⟨ad36.block, ad36.off + 5, none⟩ = some (.int .i64 ((rd_T65 t22 0).f4)) ∧ w'.cell? ⟨ad36.block, ad36.off + 6, none⟩ = some (.slice A38_6 ((rd_T65 t22 0).f5).length c38_6) ∧ w'.cell? ad36 = some (.int .i64 ((rd_T65 t22 0).f0)) ∧ w'.cell? ⟨ad36.block, ad36.off + 1, none⟩ = some (.int .i64 ((rd_T65 t22 0).f1)) ∧ w'.cell? ⟨ad36.block, ad36.off + 2, none⟩ = some (.int .i64 ((rd_T65 t22 0).f2)) ∧ w'.cell? ⟨ad36.block, ad36.off + 3, none⟩ = some (.int .i64 ((rd_T65 t22 0).f3.f0)) ∧ w'.cell? ⟨ad36.block, ad36.off + 4, none⟩ = some (.string ((rd_T65 t22 0).f3.f1)) ∧ w'.cell? ⟨ad36.block, ad36.off + 5, none⟩ = some (.int .i64 ((rd_T65 t22 0).f4)) ∧ w'.cell? ⟨ad36.block, ad36.off + 6, none⟩ = some (.slice A38_6 ((rd_T65 t22 0).f5).length c38_6) ∧ w'.cell? ad36 = some (.int .i64 ((rd_T65 t22 0).f0)) ∧ w'.cell? ⟨ad36.block, ad36.off + 1, none⟩ = some (.int .i64 ((rd_T65 t22 0).f1)) ∧ w'.cell? ⟨ad36.block, ad36.off + 2, none⟩ = some (.int .i64 ((rd_T65 t22 0).f2)) ∧ w'.cell? ⟨ad36.block, ad36.off + 3, none⟩ = some (.int .i64 ((rd_T65 t22 0).f3.f0)) ∧ w'.cell? ⟨ad36.block, ad36.off + 4, none⟩ = some (.string ((rd_T65 t22 0).f3.f1)) ∧ w'.cell? ⟨ad36.block, ad36.off + 5, none⟩ = some (.int .i64 ((rd_T65 t22 0).f4)) ∧ w'.cell? ⟨ad36.block, ad36.off + 6, none⟩ = some (.slice A38_6 ((rd_T65 t22 0).f5).length c38_6)) [] laws_FnGossiped.tab10 laws_FnGossiped.bits10 ⟨bc0_ BK18.out, bc1_ BK18.out, bc2_ BK18.out, bc3_ BK18.out, bc4_ BK18.out, bc5_ BK18.out, bc6_ BK18.out, bc7_ BK18.out, hx36_0, hx36_1, hx36_2, hx36_3, hx36_4, hx36_5, hx36_6, hx38_0, hx38_1, hx38_2, hx38_3, hx38_4, hx38_5, hx38_6, hx39_0, hx39_1, hx39_2, hx39_3, hx39_4, hx39_5, hx39_6, hx40_0, hx40_1, hx40_2, hx40_3, hx40_4, hx40_5, hx40_6⟩ (fun hHeld HT_ HW_ => ?_)
          generalize w71.drew = w72 at HO_6 HO_7 HO_19001 HO_19004 HL31_6 HL33_6 HL34_6 HL35_6 BK18 HR31_6 HR33_6 HR34_6 HR35_6 HB HL36_6 HL38_6 HL39_6 HL40_6 HR36_6 HR38_6 HR39_6 HR40_6 hx36_0 hx36_1 hx36_2 hx36_3 hx36_4 hx36_5 hx36_6 hx38_0 hx38_1 hx38_2 hx38_3 hx38_4 hx38_5 hx38_6 hx39_0 hx39_1 hx39_2 hx39_3 hx39_4 hx39_5 hx39_6 hx40_0 hx40_1 hx40_2 hx40_3 hx40_4 hx40_5 hx40_6 hHeld ⊢
          refine pt_ 0 88 1 ?_
          refine pt_ 1 89 3 ?_
          refine pt_ 2 90 7 ?_
          refine pt_ 3 91 15 ?_
          refine pt_ 4 92 31 ?_
          refine pt_ 5 93 63 ?_
          refine tt_ 6 94 127 ?_
          refine oz_ 7 95 38 255 (fun K hK => ?_)
          refine ge_ Tryz.func35 #[.agg #[.int .i64 ((rd_T65 t22 0).f0), .int .i64 ((rd_T65 t22 0).f1), .int .i64 ((rd_T65 t22 0).f2), .int .i64 ((rd_T65 t22 0).f3.f0), .string ((rd_T65 t22 0).f3.f1), .int .i64 ((rd_T65 t22 0).f4), .slice A36_6 ((rd_T65 t22 0).f5).length c36_6]] ?_
          with_reducible refine (impl_MsgOk.calls kj6 ((rd_T65 t22 0).f0) ((rd_T65 t22 0).f1) ((rd_T65 t22 0).f2) ((rd_T65 t22 0).f3.f0) ((rd_T65 t22 0).f3.f1) ((rd_T65 t22 0).f4) _ _ ((rd_T65 t22 0).f5) true _ ?side1 ?side2 A65.out).mono ?_
          (case side1 => exact cr_ (by repeat (first | (with_reducible exact HR36_6.out) | (with_reducible refine Kd.C_alloc ?_ _) | (with_reducible refine Kd.C_drewN ?_ _) | (with_reducible refine Kd.C_drew ?_) | exact HR36_6.out)))
          (case side2 => exact HC36_6.out)
          rintro e w74 ⟨rfl, hb⟩
          have hbS := hb
          refine ⟨_, rfl, ?_⟩
          replace HO_6 := am_ (Kd.S_below (by (with_reducible repeat (first | apply Kd.S_alloc | apply Kd.S_drewN | apply Kd.S_drew)); exact HO_6.out) hb)
          replace HO_7 := am_ (Kd.S_below (by (with_reducible repeat (first | apply Kd.S_alloc | apply Kd.S_drewN | apply Kd.S_drew)); exact HO_7.out) hb)
          replace BK18 := kl_ BK18 hb
          replace HB := ss_ HB hb
          clear hb
          refine hK.out _ _ ⟨bc0_ BK18.out, bc1_ BK18.out, bc2_ BK18.out, bc3_ BK18.out, bc4_ BK18.out, bc5_ BK18.out, bc6_ BK18.out, bc7_ BK18.out, hs_ hbS hHeld.2.2.2.2.2.2.2.2⟩ (fun hHeld => ?_)
          clear hK K
          refine no_ 95 ?_
          refine pt_ 8 96 511 ?_
          refine pt_ 9 97 1023 ?_
          refine pt_ 10 98 2047 ?_
          refine pt_ 11 99 4095 ?_
          refine pt_ 13 101 12287 ?_
          refine pt_ 14 102 28671 ?_
          refine pt_ 15 103 61439 ?_
          refine tt_ 12 100 65535 ?_
          refine tt_ 16 104 131071 ?_
          refine pt_ 17 105 262143 ?_
          refine pt_ 18 106 524287 ?_
          refine pt_ 19 107 1048575 ?_
          refine pt_ 20 108 2097151 ?_
          refine pt_ 21 109 4194303 ?_
          refine pt_ 22 110 8388607 ?_
          refine pt_ 23 111 16777215 ?_
          refine pt_ 25 113 50331647 ?_
          refine tt_ 24 112 67108863 ?_
          refine tt_ 26 114 134217727 ?_
          refine pt_ 27 115 268435455 ?_
          refine pt_ 28 116 536870911 ?_
          refine pt_ 29 117 1073741823 ?_
          refine pt_ 30 118 2147483647 ?_
          refine pt_ 31 119 4294967295 ?_
          refine pt_ 32 120 8589934591 ?_
          refine tt_ 33 121 17179869183 ?_
          refine pt_ 34 122 34359738367 ?_
          refine pt_ 35 123 68719476735 ?_
          refine pt_ 36 124 137438953471 ?_
          refine pt_ 37 2 274877906943 ?_
          refine dn_ ?_
          try go_wp2
          go_ret
          exact ⟨e2_, bw_ HB⟩
         ·have c68b0 : (((rd_T65 t22 0).f3.f0) == t12 && ((((rd_T65 t22 0).f3.f1).toList) == t13.toList)) = false := by simpa using c68
          (try (have c68b1 : decide (((rd_T65 t22 0).f3.f0) = t12 && ((((rd_T65 t22 0).f3.f1).toList) == t13.toList)) = false := by simpa using c68))
          (try (have c68b2 : (((rd_T65 t22 0).f3.f0) == t12 && ((((rd_T65 t22 0).f3.f1).toList) == t13.toList)) = false := by simpa using c68))
          (try (have c68b3 : ¬ (((rd_T65 t22 0).f3.f0) = t12 && ((((rd_T65 t22 0).f3.f1).toList) == t13.toList)) := by simpa using c68))
          clear c68
          exact absurd H (by simp)
        ·have c67b0 : (((rd_T65 t22 0).f4) == (t3.length : Int)) = false := beq_eq_false_iff_ne.mpr c67
         have c67b1 : (((rd_T65 t22 0).f4) != (t3.length : Int)) = true := bne_iff_ne.mpr c67
         exact absurd H (by simp)
      ·have c56b0 : (((rd_T65 t19 0).f0) == 1) = false := beq_eq_false_iff_ne.mpr c56
       have c56b1 : (((rd_T65 t19 0).f0) != 1) = true := bne_iff_ne.mpr c56
       exact absurd H (by simp)
    ·have c51b0 : ((t19.length : Int) == 1) = false := beq_eq_false_iff_ne.mpr c51
     have c51b1 : ((t19.length : Int) != 1) = true := bne_iff_ne.mpr c51
     replace H := it_ H; obtain ⟨c75, H⟩ | ⟨c75, H⟩ := H
     ·have c75b0 : ((t22.length : Int) == 0) = true := beq_iff_eq.mpr c75
      have c75b1 : ((t22.length : Int) != 0) = false := bne_eq_false_iff_eq.mpr c75
      clear c75
      obtain rfl := Option.some.inj H
      try go_wp2
      replace HO_6 := am_ (Kd.S_drew HO_6.out)
      replace HO_7 := am_ (Kd.S_drew HO_7.out)
      replace BK18 := bd_ BK18
      replace HB := hd_ HB
      obtain ⟨Ao77, co77, eo77⟩ := Kd.S_slice HO_6.out
      (first | subst eo77 | (injection eo77 with f1_ f2_ f3_; have f4_ := f1_.symm; have f5_ := f3_.symm; clear f1_ f2_ f3_; subst f4_; subst f5_))
      refine sw_ 34 (fun w' => True) [] laws_FnGossiped.tab8 laws_FnGossiped.bits8 trivial (fun hHeld HT_ HW_ => ?_)
      generalize wc.drew = w76 at HO_6 HO_7 HO_19001 HO_19004 BK18 HB hHeld ⊢
      refine pt_ 0 54 1 ?_
      refine pt_ 1 55 3 ?_
      refine pt_ 2 56 7 ?_
      refine pt_ 3 57 15 ?_
      refine ut_ 4 58 31 ?_
      refine ut_ 5 59 63 ?_
      refine ut_ 6 60 127 ?_
      refine ut_ 7 61 255 ?_
      refine ut_ 8 62 511 ?_
      refine ut_ 9 63 1023 ?_
      refine ut_ 10 64 2047 ?_
      refine ut_ 11 65 4095 ?_
      refine ut_ 12 66 8191 ?_
      refine ut_ 13 67 16383 ?_
      refine ut_ 14 68 32767 ?_
      refine ut_ 15 69 65535 ?_
      refine ut_ 16 70 131071 ?_
      refine ut_ 17 71 262143 ?_
      refine ut_ 18 72 524287 ?_
      refine ut_ 19 73 1048575 ?_
      refine ut_ 20 74 2097151 ?_
      refine ut_ 21 75 4194303 ?_
      refine ut_ 22 76 8388607 ?_
      refine ut_ 23 77 16777215 ?_
      refine ut_ 24 78 33554431 ?_
      refine ut_ 25 79 67108863 ?_
      refine ut_ 26 80 134217727 ?_
      refine ut_ 27 81 268435455 ?_
      refine ut_ 28 82 536870911 ?_
      refine ut_ 29 83 1073741823 ?_
      refine ut_ 30 84 2147483647 ?_
      refine ut_ 31 85 4294967295 ?_
      refine ut_ 32 86 8589934591 ?_
      refine pt_ 33 87 17179869183 ?_
      refine dn_ ?_
      try go_wp2
      replace HO_6 := am_ (Kd.S_drew HO_6.out)
      replace HO_7 := am_ (Kd.S_drew HO_7.out)
      replace BK18 := bd_ BK18
      replace HB := hd_ HB
      obtain ⟨Ao79, co79, eo79⟩ := Kd.S_slice HO_7.out
      (first | subst eo79 | (injection eo79 with f1_ f2_ f3_; have f4_ := f1_.symm; have f5_ := f3_.symm; clear f1_ f2_ f3_; subst f4_; subst f5_))
      refine sw_ 38 (fun w' => True) [] laws_FnGossiped.tab10 laws_FnGossiped.bits10 trivial (fun hHeld HT_ HW_ => ?_)
      generalize w76.drew = w78 at HO_6 HO_7 HO_19001 HO_19004 BK18 HB hHeld ⊢
      refine pt_ 0 88 1 ?_
      refine pt_ 1 89 3 ?_
      refine pt_ 2 90 7 ?_
      refine pt_ 3 91 15 ?_
      refine ut_ 4 92 31 ?_
      refine ut_ 5 93 63 ?_
      refine ut_ 6 94 127 ?_
      refine ut_ 7 95 255 ?_
      refine ut_ 8 96 511 ?_
      refine ut_ 9 97 1023 ?_
      refine ut_ 10 98 2047 ?_
      refine ut_ 11 99 4095 ?_
      refine ut_ 12 100 8191 ?_
      refine ut_ 13 101 16383 ?_
      refine ut_ 14 102 32767 ?_
      refine ut_ 15 103 65535 ?_
      refine ut_ 16 104 131071 ?_
      refine ut_ 17 105 262143 ?_
      refine ut_ 18 106 524287 ?_
      refine ut_ 19 107 1048575 ?_
      refine ut_ 20 108 2097151 ?_
      refine ut_ 21 109 4194303 ?_
      refine ut_ 22 110 8388607 ?_
      refine ut_ 23 111 16777215 ?_
      refine ut_ 24 112 33554431 ?_
      refine ut_ 25 113 67108863 ?_
      refine ut_ 26 114 134217727 ?_
      refine ut_ 27 115 268435455 ?_
      refine ut_ 28 116 536870911 ?_
      refine ut_ 29 117 1073741823 ?_
      refine ut_ 30 118 2147483647 ?_
      refine ut_ 31 119 4294967295 ?_
      refine ut_ 32 120 8589934591 ?_
      refine ut_ 33 121 17179869183 ?_
      refine ut_ 34 122 34359738367 ?_
      refine ut_ 35 123 68719476735 ?_
      refine pt_ 36 124 137438953471 ?_
      refine pt_ 37 2 274877906943 ?_
      refine dn_ ?_
      try go_wp2
      go_ret
      exact ⟨e2_, bw_ HB⟩
     ·have c75b0 : ((t22.length : Int) == 0) = false := beq_eq_false_iff_ne.mpr c75
      have c75b1 : ((t22.length : Int) != 0) = true := bne_iff_ne.mpr c75
      have c75b2 : ¬ (t22 = []) := fun h_ => c75 (by rw [h_]; rfl)
      replace H := ip_ H; obtain ⟨c80, H⟩ := H
      have c80b0 := decide_eq_true c80
      have c80b1 : decide (0 < t22.length) = true := decide_eq_true (by omega)
      clear c80
      replace H := bi_ H; obtain ⟨t42, A81, H⟩ := H
      replace H := ipb_ H; obtain ⟨rfl, H⟩ := H
      replace H := it_ H; obtain ⟨c83, H⟩ | ⟨c83, H⟩ := H
      ·have c83b0 : (((rd_T65 t22 0).f4) == (t3.length : Int)) = true := beq_iff_eq.mpr c83
       have c83b1 : (((rd_T65 t22 0).f4) != (t3.length : Int)) = false := bne_eq_false_iff_eq.mpr c83
       clear c83
       replace H := it_ H; obtain ⟨c84, H⟩ | ⟨c84, H⟩ := H
       ·have c84b0 : (((rd_T65 t22 0).f3.f0) == t12 && ((((rd_T65 t22 0).f3.f1).toList) == t13.toList)) = true := c84
        (try (have c84b1 : decide (((rd_T65 t22 0).f3.f0) = t12 && ((((rd_T65 t22 0).f3.f1).toList) == t13.toList)) = true := by simpa using c84))
        (try (have c84b2 : (((rd_T65 t22 0).f3.f0) == t12 && ((((rd_T65 t22 0).f3.f1).toList) == t13.toList)) = true := by simpa using c84))
        clear c84
        obtain rfl := Option.some.inj H
        try go_wp2
        replace HO_6 := am_ (Kd.S_drew HO_6.out)
        replace HO_7 := am_ (Kd.S_drew HO_7.out)
        replace BK18 := bd_ BK18
        replace HB := hd_ HB
        obtain ⟨Ao86, co86, eo86⟩ := Kd.S_slice HO_6.out
        (first | subst eo86 | (injection eo86 with f1_ f2_ f3_; have f4_ := f1_.symm; have f5_ := f3_.symm; clear f1_ f2_ f3_; subst f4_; subst f5_))
        refine sw_ 34 (fun w' => True) [] laws_FnGossiped.tab8 laws_FnGossiped.bits8 trivial (fun hHeld HT_ HW_ => ?_)
        generalize wc.drew = w85 at HO_6 HO_7 HO_19001 HO_19004 BK18 HB hHeld ⊢
        refine pt_ 0 54 1 ?_
        refine pt_ 1 55 3 ?_
        refine pt_ 2 56 7 ?_
        refine pt_ 3 57 15 ?_
        refine ut_ 4 58 31 ?_
        refine ut_ 5 59 63 ?_
        refine ut_ 6 60 127 ?_
        refine ut_ 7 61 255 ?_
        refine ut_ 8 62 511 ?_
        refine ut_ 9 63 1023 ?_
        refine ut_ 10 64 2047 ?_
        refine ut_ 11 65 4095 ?_
        refine ut_ 12 66 8191 ?_
        refine ut_ 13 67 16383 ?_
        refine ut_ 14 68 32767 ?_
        refine ut_ 15 69 65535 ?_
        refine ut_ 16 70 131071 ?_
        refine ut_ 17 71 262143 ?_
        refine ut_ 18 72 524287 ?_
        refine ut_ 19 73 1048575 ?_
        refine ut_ 20 74 2097151 ?_
        refine ut_ 21 75 4194303 ?_
        refine ut_ 22 76 8388607 ?_
        refine ut_ 23 77 16777215 ?_
        refine ut_ 24 78 33554431 ?_
        refine ut_ 25 79 67108863 ?_
        refine ut_ 26 80 134217727 ?_
        refine ut_ 27 81 268435455 ?_
        refine ut_ 28 82 536870911 ?_
        refine ut_ 29 83 1073741823 ?_
        refine ut_ 30 84 2147483647 ?_
        refine ut_ 31 85 4294967295 ?_
        refine ut_ 32 86 8589934591 ?_
        refine pt_ 33 87 17179869183 ?_
        refine dn_ ?_
        try go_wp2
        replace HO_7 := am_ (Kd.S_drew HO_7.out)
        replace BK18 := bd_ BK18
        replace HB := hd_ HB
        obtain ⟨Ao88, co88, eo88⟩ := Kd.S_slice HO_7.out
        (first | subst eo88 | (injection eo88 with f1_ f2_ f3_; have f4_ := f1_.symm; have f5_ := f3_.symm; clear f1_ f2_ f3_; subst f4_; subst f5_))
        have p41 : 0 ≤ (0 : Int) := (by omega)
        have q41 : 0 < (t22.length : Int) := od_
        obtain ⟨ad41, A41_6, c41_6, e41, hx41_0, hx41_1, hx41_2, hx41_3, hx41_4, hx41_5, hx41_6, hl41_6, hi41_6⟩ := at_T65 (Kd.S_reads' HO_7.out).2.2 0 p41 q41
        cases e41
        obtain ⟨ce41, hce41, hMe41, hcc41⟩ := Kd.S_get HO_7.out z65 0 p41 (by first | exact q41 | exact od_ | (have e_ := (Kd.S_reads' HO_7.out).1; omega))
        obtain ⟨ve41_6, rfl, ge41_6⟩ := k65_openM hMe41
        have hv41_6 := hcc41 6 _ rfl
        rw [add_field _ _ 6 (by omega)] at hv41_6
        replace hv41_6 := Option.some.inj (hv41_6.symm.trans hx41_6)
        rw [hv41_6] at ge41_6
        have HL41_6 := am_ (show Kd.R Kd.string 9 _ _ _ _ ((rd_T65 t22 0).f5) from ge41_6)
        clear hv41_6 ge41_6
        clear hcc41 hce41
        have qi41 : (0 < t22.length) = True := eq_true (by omega)
        rw [show ((0 : Int)).toNat = 0 from rfl, show 0 * 7 = 0 from rfl] at hx41_0 hx41_1 hx41_2 hx41_3 hx41_4 hx41_5 hx41_6
        (try rw [Addr.add_zero'] at hx41_0)
        have HR41_6 := am_ hi41_6
        have HC41_6 := am_ hl41_6
        clear hi41_6 hl41_6
        replace p41 := eq_true p41
        replace q41 := eq_true q41
        have p43 : 0 ≤ (0 : Int) := (by omega)
        have q43 : 0 < (t22.length : Int) := od_
        obtain ⟨ad43, A43_6, c43_6, e43, hx43_0, hx43_1, hx43_2, hx43_3, hx43_4, hx43_5, hx43_6, hl43_6, hi43_6⟩ := at_T65 (Kd.S_reads' HO_7.out).2.2 0 p43 q43
        obtain rfl : ad41 = ad43 := (by injection e43)
        obtain ⟨ce43, hce43, hMe43, hcc43⟩ := Kd.S_get HO_7.out z65 0 p43 (by first | exact q43 | exact od_ | (have e_ := (Kd.S_reads' HO_7.out).1; omega))
        obtain ⟨ve43_6, rfl, ge43_6⟩ := k65_openM hMe43
        have hv43_6 := hcc43 6 _ rfl
        rw [add_field _ _ 6 (by omega)] at hv43_6
        replace hv43_6 := Option.some.inj (hv43_6.symm.trans hx43_6)
        rw [hv43_6] at ge43_6
        have HL43_6 := am_ (show Kd.R Kd.string 9 _ _ _ _ ((rd_T65 t22 0).f5) from ge43_6)
        clear hv43_6 ge43_6
        clear hcc43 hce43
        have qi43 : (0 < t22.length) = True := eq_true (by omega)
        rw [show ((0 : Int)).toNat = 0 from rfl, show 0 * 7 = 0 from rfl] at hx43_0 hx43_1 hx43_2 hx43_3 hx43_4 hx43_5 hx43_6
        (try rw [Addr.add_zero'] at hx43_0)
        have HR43_6 := am_ hi43_6
        have HC43_6 := am_ hl43_6
        clear hi43_6 hl43_6
        replace p43 := eq_true p43
        replace q43 := eq_true q43
        have p44 : 0 ≤ (0 : Int) := (by omega)
        have q44 : 0 < (t22.length : Int) := od_
        obtain ⟨ad44, A44_6, c44_6, e44, hx44_0, hx44_1, hx44_2, hx44_3, hx44_4, hx44_5, hx44_6, hl44_6, hi44_6⟩ := at_T65 (Kd.S_reads' HO_7.out).2.2 0 p44 q44
        obtain rfl : ad41 = ad44 := (by injection e44)
        obtain ⟨ce44, hce44, hMe44, hcc44⟩ := Kd.S_get HO_7.out z65 0 p44 (by first | exact q44 | exact od_ | (have e_ := (Kd.S_reads' HO_7.out).1; omega))
        obtain ⟨ve44_6, rfl, ge44_6⟩ := k65_openM hMe44
        have hv44_6 := hcc44 6 _ rfl
        rw [add_field _ _ 6 (by omega)] at hv44_6
        replace hv44_6 := Option.some.inj (hv44_6.symm.trans hx44_6)
        rw [hv44_6] at ge44_6
        have HL44_6 := am_ (show Kd.R Kd.string 9 _ _ _ _ ((rd_T65 t22 0).f5) from ge44_6)
        clear hv44_6 ge44_6
        clear hcc44 hce44
        have qi44 : (0 < t22.length) = True := eq_true (by omega)
        rw [show ((0 : Int)).toNat = 0 from rfl, show 0 * 7 = 0 from rfl] at hx44_0 hx44_1 hx44_2 hx44_3 hx44_4 hx44_5 hx44_6
        (try rw [Addr.add_zero'] at hx44_0)
        have HR44_6 := am_ hi44_6
        have HC44_6 := am_ hl44_6
        clear hi44_6 hl44_6
        replace p44 := eq_true p44
        replace q44 := eq_true q44
        have ea_ := Option.some.inj (hx43_6.symm.trans hx44_6)
        injection ea_ with ea_ en_ ec_
        subst ea_
        subst ec_
        clear en_
        have p45 : 0 ≤ (0 : Int) := (by omega)
        have q45 : 0 < (t22.length : Int) := od_
        obtain ⟨ad45, A45_6, c45_6, e45, hx45_0, hx45_1, hx45_2, hx45_3, hx45_4, hx45_5, hx45_6, hl45_6, hi45_6⟩ := at_T65 (Kd.S_reads' HO_7.out).2.2 0 p45 q45
        obtain rfl : ad41 = ad45 := (by injection e45)
        obtain ⟨ce45, hce45, hMe45, hcc45⟩ := Kd.S_get HO_7.out z65 0 p45 (by first | exact q45 | exact od_ | (have e_ := (Kd.S_reads' HO_7.out).1; omega))
        obtain ⟨ve45_6, rfl, ge45_6⟩ := k65_openM hMe45
        have hv45_6 := hcc45 6 _ rfl
        rw [add_field _ _ 6 (by omega)] at hv45_6
        replace hv45_6 := Option.some.inj (hv45_6.symm.trans hx45_6)
        rw [hv45_6] at ge45_6
        have HL45_6 := am_ (show Kd.R Kd.string 9 _ _ _ _ ((rd_T65 t22 0).f5) from ge45_6)
        clear hv45_6 ge45_6
        clear hcc45 hce45
        have qi45 : (0 < t22.length) = True := eq_true (by omega)
        rw [show ((0 : Int)).toNat = 0 from rfl, show 0 * 7 = 0 from rfl] at hx45_0 hx45_1 hx45_2 hx45_3 hx45_4 hx45_5 hx45_6
        (try rw [Addr.add_zero'] at hx45_0)
        have HR45_6 := am_ hi45_6
        have HC45_6 := am_ hl45_6
        clear hi45_6 hl45_6
        replace p45 := eq_true p45
        replace q45 := eq_true q45
        have ea_ := Option.some.inj (hx43_6.symm.trans hx45_6)
        injection ea_ with ea_ en_ ec_
        subst ea_
        subst ec_
        clear en_
        refine sw_ 38 (fun w' => w'.cell? ⟨gb18, 0, none⟩ = some (.int .i64 t602) ∧ w'.cell? ⟨gb18, 1, none⟩ = some (.slice Ao11 t3.length co11) ∧ w'.cell? ⟨gb18, 2, none⟩ = some (.int .i64 t6) ∧ w'.cell? ⟨gb18, 3, none⟩ = some (.string t7) ∧ w'.cell? ⟨gb18, 4, none⟩ = some (.slice Ao12 t8.length co12) ∧ w'.cell? ⟨gb18, 5, none⟩ = some (.int .i64 t11) ∧ w'.cell? ⟨gb18, 6, none⟩ = some (.int .i64 t12) ∧ w'.cell? ⟨gb18, 7, none⟩ = some (.string t13) ∧ w'.cell? ad41 = some (.int .i64 ((rd_T65 t22 0).f0)) ∧ w'.cell? ⟨ad41.block, ad41.off + 1, none⟩ = some (.int .i64 ((rd_T65 t22 0).f1)) ∧ w'.cell? ⟨ad41.block, ad41.off + 2, none⟩ = some (.int .i64 ((rd_T65 t22 0).f2)) ∧ w'.cell? ⟨ad41.block, ad41.off + 3, none⟩ = some (.int .i64 ((rd_T65 t22 0).f3.f0)) ∧ w'.cell? ⟨ad41.block, ad41.off + 4, none⟩ = some (.string ((rd_T65 t22 0).f3.f1)) ∧ w'.cell? ⟨ad41.block, ad41.off + 5, none⟩ = some (.int .i64 ((rd_T65 t22 0).f4)) ∧ w'.cell? ⟨ad41.block, ad41.off + 6, none⟩ = some (.slice A41_6 ((rd_T65 t22 0).f5).length c41_6) ∧ w'.cell? ad41 = some (.int .i64 ((rd_T65 t22 0).f0)) ∧ w'.cell? ⟨ad41.block, ad41.off + 1, none⟩ = some (.int .i64 ((rd_T65 t22 0).f1)) ∧ w'.cell? ⟨ad41.block, ad41.off + 2, none⟩ = some (.int .i64 ((rd_T65 t22 0).f2)) ∧ w'.cell? ⟨ad41.block, ad41.off + 3, none⟩ = some (.int .i64 ((rd_T65 t22 0).f3.f0)) ∧ w'.cell? ⟨ad41.block, ad41.off + 4, none⟩ = some (.string ((rd_T65 t22 0).f3.f1)) ∧ w'.cell? ⟨ad41.block, ad41.off + 5, none⟩ = some (.int .i64 ((rd_T65 t22 0).f4)) ∧ w'.cell? ⟨ad41.block, ad41.off + 6, none⟩ = some (.slice A43_6 ((rd_T65 t22 0).f5).length c43_6) ∧ w'.cell? ad41 = some (.int .i64 ((rd_T65 t22 0).f0)) ∧ w'.cell? ⟨ad41.block, ad41.off + 1, none⟩ = some (.int .i64 ((rd_T65 t22 0).f1)) ∧ w'.cell? ⟨ad41.block, ad41.off + 2, none⟩ = some (.int .i64 ((rd_T65 t22 0).f2)) ∧ w'.cell? ⟨ad41.block, ad41.off + 3, none⟩ = some (.int .i64 ((rd_T65 t22 0).f3.f0)) ∧ w'.cell? ⟨ad41.block, ad41.off + 4, none⟩ = some (.string ((rd_T65 t22 0).f3.f1)) ∧ w'.cell? ⟨ad41.block, ad41.off + 5, none⟩ = some (.int .i64 ((rd_T65 t22 0).f4)) ∧ w'.cell? ⟨ad41.block, ad41.off + 6, none⟩ = some (.slice A43_6 ((rd_T65 t22 0).f5).length c43_6) ∧ w'.cell? ad41 = some (.int .i64 ((rd_T65 t22 0).f0)) ∧ w'.cell? ⟨ad41.block, ad41.off + 1, none⟩ = some (.int .i64 ((rd_T65 t22 0).f1)) ∧ w'.cell? ⟨ad41.block, ad41.off + 2, none⟩ = some (.int .i64 ((rd_T65 t22 0).f2)) ∧ w'.cell? ⟨ad41.block, ad41.off + 3, none⟩ = some (.int .i64 ((rd_T65 t22 0).f3.f0)) ∧ w'.cell? ⟨ad41.block, ad41.off + 4, none⟩ = some (.string ((rd_T65 t22 0).f3.f1)) ∧ w'.cell? ⟨ad41.block, ad41.off + 5, none⟩ = some (.int .i64 ((rd_T65 t22 0).f4)) ∧ w'.cell? ⟨ad41.block, ad41.off + 6, none⟩ = some (.slice A43_6 ((rd_T65 t22 0).f5).length c43_6)) [] laws_FnGossiped.tab10 laws_FnGossiped.bits10 ⟨bc0_ BK18.out, bc1_ BK18.out, bc2_ BK18.out, bc3_ BK18.out, bc4_ BK18.out, bc5_ BK18.out, bc6_ BK18.out, bc7_ BK18.out, hx41_0, hx41_1, hx41_2, hx41_3, hx41_4, hx41_5, hx41_6, hx43_0, hx43_1, hx43_2, hx43_3, hx43_4, hx43_5, hx43_6, hx44_0, hx44_1, hx44_2, hx44_3, hx44_4, hx44_5, hx44_6, hx45_0, hx45_1, hx45_2, hx45_3, hx45_4, hx45_5, hx45_6⟩ (fun hHeld HT_ HW_ => ?_)
        generalize w85.drew = w87 at HO_6 HO_7 HO_19001 HO_19004 BK18 HB HL41_6 HL43_6 HL44_6 HL45_6 HR41_6 HR43_6 HR44_6 HR45_6 hx41_0 hx41_1 hx41_2 hx41_3 hx41_4 hx41_5 hx41_6 hx43_0 hx43_1 hx43_2 hx43_3 hx43_4 hx43_5 hx43_6 hx44_0 hx44_1 hx44_2 hx44_3 hx44_4 hx44_5 hx44_6 hx45_0 hx45_1 hx45_2 hx45_3 hx45_4 hx45_5 hx45_6 hHeld ⊢
        refine pt_ 0 88 1 ?_
        refine pt_ 1 89 3 ?_
        refine pt_ 2 90 7 ?_
        refine pt_ 3 91 15 ?_
        refine pt_ 4 92 31 ?_
        refine pt_ 5 93 63 ?_
        refine tt_ 6 94 127 ?_
        refine oz_ 7 95 38 255 (fun K hK => ?_)
        refine ge_ Tryz.func35 #[.agg #[.int .i64 ((rd_T65 t22 0).f0), .int .i64 ((rd_T65 t22 0).f1), .int .i64 ((rd_T65 t22 0).f2), .int .i64 ((rd_T65 t22 0).f3.f0), .string ((rd_T65 t22 0).f3.f1), .int .i64 ((rd_T65 t22 0).f4), .slice A41_6 ((rd_T65 t22 0).f5).length c41_6]] ?_
        with_reducible refine (impl_MsgOk.calls kj6 ((rd_T65 t22 0).f0) ((rd_T65 t22 0).f1) ((rd_T65 t22 0).f2) ((rd_T65 t22 0).f3.f0) ((rd_T65 t22 0).f3.f1) ((rd_T65 t22 0).f4) _ _ ((rd_T65 t22 0).f5) true _ ?side1 ?side2 A81.out).mono ?_
        (case side1 => exact cr_ (by repeat (first | (with_reducible exact HR41_6.out) | (with_reducible refine Kd.C_alloc ?_ _) | (with_reducible refine Kd.C_drewN ?_ _) | (with_reducible refine Kd.C_drew ?_) | exact HR41_6.out)))
        (case side2 => exact HC41_6.out)
        rintro e w89 ⟨rfl, hb⟩
        have hbS := hb
        refine ⟨_, rfl, ?_⟩
        replace BK18 := kl_ BK18 hb
        replace HB := ss_ HB hb
        clear hb
        refine hK.out _ _ ⟨bc0_ BK18.out, bc1_ BK18.out, bc2_ BK18.out, bc3_ BK18.out, bc4_ BK18.out, bc5_ BK18.out, bc6_ BK18.out, bc7_ BK18.out, hs_ hbS hHeld.2.2.2.2.2.2.2.2⟩ (fun hHeld => ?_)
        clear hK K
        refine no_ 95 ?_
        refine pt_ 8 96 511 ?_
        refine pt_ 9 97 1023 ?_
        refine pt_ 10 98 2047 ?_
        refine pt_ 11 99 4095 ?_
        refine pt_ 13 101 12287 ?_
        refine pt_ 14 102 28671 ?_
        refine pt_ 15 103 61439 ?_
        refine tt_ 12 100 65535 ?_
        refine tt_ 16 104 131071 ?_
        refine pt_ 17 105 262143 ?_
        refine pt_ 18 106 524287 ?_
        refine pt_ 19 107 1048575 ?_
        refine pt_ 20 108 2097151 ?_
        refine pt_ 21 109 4194303 ?_
        refine pt_ 22 110 8388607 ?_
        refine pt_ 23 111 16777215 ?_
        refine pt_ 25 113 50331647 ?_
        refine tt_ 24 112 67108863 ?_
        refine tt_ 26 114 134217727 ?_
        refine pt_ 27 115 268435455 ?_
        refine pt_ 28 116 536870911 ?_
        refine pt_ 29 117 1073741823 ?_
        refine pt_ 30 118 2147483647 ?_
        refine pt_ 31 119 4294967295 ?_
        refine pt_ 32 120 8589934591 ?_
        refine tt_ 33 121 17179869183 ?_
        refine pt_ 34 122 34359738367 ?_
        refine pt_ 35 123 68719476735 ?_
        refine pt_ 36 124 137438953471 ?_
        refine pt_ 37 2 274877906943 ?_
        refine dn_ ?_
        try go_wp2
        go_ret
        exact ⟨e2_, bw_ HB⟩
       ·have c84b0 : (((rd_T65 t22 0).f3.f0) == t12 && ((((rd_T65 t22 0).f3.f1).toList) == t13.toList)) = false := by simpa using c84
        (try (have c84b1 : decide (((rd_T65 t22 0).f3.f0) = t12 && ((((rd_T65 t22 0).f3.f1).toList) == t13.toList)) = false := by simpa using c84))
        (try (have c84b2 : (((rd_T65 t22 0).f3.f0) == t12 && ((((rd_T65 t22 0).f3.f1).toList) == t13.toList)) = false := by simpa using c84))
        (try (have c84b3 : ¬ (((rd_T65 t22 0).f3.f0) = t12 && ((((rd_T65 t22 0).f3.f1).toList) == t13.toList)) := by simpa using c84))
        clear c84
        exact absurd H (by simp)
      ·have c83b0 : (((rd_T65 t22 0).f4) == (t3.length : Int)) = false := beq_eq_false_iff_ne.mpr c83
       have c83b1 : (((rd_T65 t22 0).f4) != (t3.length : Int)) = true := bne_iff_ne.mpr c83
       exact absurd H (by simp)
end
end Go.Proofs.YtnlndmoecljicaaGreat.Q
end
section
namespace Go.Proofs.YtnlndmoecljicaaGreat.Q
open Go.RowKit Go.Proofs.YtnlndmoecljicaaGreat.XO Go.Proofs.YtnlndmoecljicaaGreatW.PrintWords Go.ChangeShapes Go.WideShapes Go.ChangeAt
def laws_FnGossiped.Pure : Prop := ∀ (x0 : List Int), (x0.length ≤ 9223372036854775807 ∧ ∀ y0 ∈ x0, (Lit.int .u8 y0).wf = true) → ∃ k, laws_FnGossiped.f k x0 = some true
namespace RFnGossiped
theorem own : ownKnob Tryz.prog.godebug = none := by kernel_rfl
theorem laidOut : laidOutB Tryz.prog = true := by kernel_rfl
set_option maxRecDepth 100000 in
theorem lifted (PU : laws_FnGossiped.Pure) (os : Os) (started : os.Started) (H : Type) (enc : TypeId × Value → H) :
  ReturnsInHanded {} Tryz.checked os 6 .any (Rows.fnGossipedSpec.pre6 enc Tryz.prog Tryz.f6 Rows.fnGossipedRow.domain false) (Rows.fnGossipedSpec.post enc Tryz.prog Tryz.f6 false true false false) := by
 refine returnsInHanded_of_change_sized (C := Tryz.checked) own started (by kernel_rfl) Tryz.func6
  (ChangeSpec.witness6 (enc := enc) (C := Tryz.checked) false ⟨#[], #[.slice none 0 0], []⟩ 8 (by kernel_rfl) (by kernel_rfl) (by kernel_rfl) (by kernel_rfl)) ?_
 intro W base args ds gs before hval0 hW hcnd hsz0 _
 have hval : ∀ (j : Nat) t v, Tryz.f6.params[j]? = some t → args[j]? = some v → Value.okWide Tryz.prog W .any base t v := hval0
 have hW' := hW
 obtain ⟨p, q, hA0, hV, rfl, hfz, hnd⟩ := hW
 have hA : DataW.TrodAll enc Tryz.prog W 0 (fun _ => true) true Tryz.f6.params.toList args.toList ds p := hA0
 rw [Tryz.params6] at hA hval
 obtain ⟨v0, vs0, d0, ds0, p0, q0, hargs, rfl, rfl, h0, r0⟩ := trodAll_cons hA
 obtain ⟨rfl, rfl, rfl⟩ := trodAll_nil r0
 obtain rfl : args = #[v0] := by cases args; simp_all
 obtain ⟨rfl, rfl⟩ := trodVars_none hV
 have kk0 := h0
 have lt0 : ∀ x ∈ p0, x.block < W.heap.size := by obtain ⟨m, hm⟩ := kk0; exact DataW.trod_lt m _ _ _ hm
 obtain ⟨A0, len0, c0, rfl⟩ := okWide_slice Tryz.underlying27 (hval 0 27 v0 rfl rfl)
 obtain ⟨fu0, hf0⟩ := h0
 obtain ⟨x0, ⟨A0', c0', he0, hc0, hr0⟩, g0⟩ := (opens_slice Tryz.underlying27 (by kernel_rfl) (opens_int Tryz.underlying5)) hf0
 obtain ⟨rfl, rfl, rfl⟩ : A0 = A0' ∧ len0 = x0.length ∧ c0 = c0' := by simpa [Value.cells] using he0
 clear hA0 hval0 hsz0
 obtain ⟨k, hp⟩ := PU x0 g0
 refine (laws_FnGossiped.calls k _ _ x0 true W hr0 hc0 hp).mono fun e W' ⟨he, bel0⟩ => ?_
 have bel : Below W.heap.size W W' := bel0
 subst he
 exact ⟨_, rfl, _, _, _, [], _, [], hW', trodAll_mk1 (shut_bool Tryz.underlying4 _), (trodAll_cons_mk (Below.trod laidOut (by kernel_rfl) (of_decide_eq_true (by kernel_rfl)) kk0 bel lt0) trodAll_mk0), rfl, bel.frame _, fun h => by cases h⟩
theorem over (PU : laws_FnGossiped.Pure) : Rows.fnGossipedRow.holds Tryz.pinned (OpenSpec.ofChange Rows.fnGossipedSpec) :=
 OpenClaim.holds_of_wide 6 Tryz.f6 rfl rfl rfl rfl rfl rfl rfl ⟨rfl, rfl, rfl, rfl, rfl⟩ rfl rfl rfl rfl rfl (by kernel_rfl) Tryz.func6 (by kernel_rfl)
  (of_decide_eq_true (by kernel_rfl)) (by unfold Func.isWrapper; first | (rw [if_pos (by decide +kernel)]; kernel_rfl) | (rw [if_neg (by decide +kernel)]; exact ⟨rfl, rfl⟩))
  (fun os started H enc _ => lifted PU os started H enc)
end RFnGossiped
theorem FnGossiped_row (PU : laws_FnGossiped.Pure) : Rows.FnGossipedSaid := RFnGossiped.over PU
end Go.Proofs.YtnlndmoecljicaaGreat.Q
end
section
namespace Go.Proofs.YtnlndmoecljicaaGreat.Q
open Go.Proofs.YtnlndmoecljicaaGreat.B Go.Proofs.YtnlndmoecljicaaGreatW.PrintMore Go.Proofs.YtnlndmoecljicaaGreatW.PrintWords Go.RowKit
set_option maxHeartbeats 8000000
set_option maxRecDepth 100000
theorem bytesOf_range (s : ByteArray) : ∀ x ∈ bytesOf s, 0 ≤ x ∧ x ≤ 255 := by
 intro x hx
 simp only [bytesOf, List.mem_map] at hx
 obtain ⟨b, _, rfl⟩ := hx
 have := b.toNat_lt
 omega
def leafH (a : ByteArray) : ByteArray := sha (0 :: bytesOf a)
def nodeH (a b : ByteArray) : ByteArray := sha (1 :: (bytesOf a ++ bytesOf b))
theorem leafH_size (a : ByteArray) : (leafH a).size = 32 := sha_size _
theorem nodeH_size (a b : ByteArray) : (nodeH a b).size = 32 := sha_size _
theorem cons_range {c : Int} {l : List Int} (h0 : 0 ≤ c ∧ c ≤ 255) (h : ∀ x ∈ l, 0 ≤ x ∧ x ≤ 255) : ∀ x ∈ c :: l, 0 ≤ x ∧ x ≤ 255 := by
 intro x hx
 rcases List.mem_cons.1 hx with rfl | hx
 ·exact h0
 ·exact h x hx
theorem impl_leaf (a : ByteArray) (h : a.size ≤ 1099511627775) : impl_LeafHash.f a = some (leafH a) := by
 unfold impl_LeafHash.f
 simp only [Option.bind_some, List.length_cons, List.length_nil]
 rw [if_pos (by omega)]
 have e : ([0] : List Int) ++ bytesOf a = 0 :: bytesOf a := rfl
 rw [e, impl_Digest_is _ (by rw [List.length_cons, bytesOf_length]; omega)]
 rfl
theorem impl_node (a b : ByteArray) (h : a.size + b.size ≤ 1099511627775) : impl_NodeHash.f a b = some (nodeH a b) := by
 unfold impl_NodeHash.f
 simp only [Option.bind_some, List.length_cons, List.length_nil]
 rw [if_pos (by omega), if_pos (by simp [bytesOf_length]; omega)]
 have e : [1] ++ bytesOf a ++ bytesOf b = 1 :: (bytesOf a ++ bytesOf b) := rfl
 rw [e, impl_Digest_is _ (by rw [List.length_cons, List.length_append, bytesOf_length, bytesOf_length]; omega)]
 rfl
theorem spec_leaf (a : ByteArray) (h : a.size ≤ 1099511627775) : Ev (fun k => spec_LeafHash.f k a) (leafH a) := by
 refine Ev.congr (fun k => ?_) (Ev.bind (spec_Digest_ev (0 :: bytesOf a) (by rw [List.length_cons, bytesOf_length]; omega) (cons_range (by omega) (bytesOf_range a))) (Ev.now _))
 unfold spec_LeafHash.f
 simp only [Option.bind_some, List.length_cons, List.length_nil]
 rw [if_pos (by omega)]
 rfl
theorem spec_node (a b : ByteArray) (h : a.size + b.size ≤ 1099511627775) : Ev (fun k => spec_NodeHash.f k a b) (nodeH a b) := by
 refine Ev.congr (fun k => ?_) (Ev.bind (spec_Digest_ev (1 :: (bytesOf a ++ bytesOf b)) (by rw [List.length_cons, List.length_append, bytesOf_length, bytesOf_length]; omega) (cons_range (by omega) (fun x hx => ?_))) (Ev.now _))
 ·unfold spec_NodeHash.f
  simp only [Option.bind_some, List.length_cons, List.length_nil]
  rw [if_pos (by omega), if_pos (by simp [bytesOf_length]; omega)]
  rfl
 ·rcases List.mem_append.1 hx with hx | hx
  ·exact bytesOf_range _ x hx
  ·exact bytesOf_range _ x hx
def half (n : Nat) : Nat := 2 ^ (n - 1).log2
theorem half_pos (n : Nat) : 1 ≤ half n := Nat.one_le_two_pow
theorem half_lt {n : Nat} (h : 2 ≤ n) : half n < n := by
 have := Nat.log2_self_le (n := n - 1) (by omega)
 unfold half
 omega
theorem half_l0 (n : Nat) (h2 : 2 ≤ n) (hn : n ≤ 4611686018427387904) : ∀ (d j : Nat), d + j = (n - 1).log2 → Ev (fun k => spec_l6Half.l0 k (n : Int) ((2 ^ j : Nat) : Int)) ((half n : Nat) : Int) := by
 have hself := Nat.log2_self_le (n := n - 1) (by omega)
 have hlt := Nat.lt_log2_self (n := n - 1)
 intro d
 induction d with
 | zero =>
  intro j hj
  obtain rfl : j = (n - 1).log2 := by omega
  refine Ev.step (f := fun _ => some ((half n : Nat) : Int)) (fun k => ?_) (Ev.now _)
  rw [Nat.pow_succ] at hlt
  simp only [spec_l6Half.l0]
  rw [w64 (by omega) (by omega), if_neg (by omega)]
  rfl
 | succ d ih =>
  intro j hj
  have hp : 2 ^ (j + 1) ≤ 2 ^ (n - 1).log2 := Nat.pow_le_pow_right (by decide) (by omega)
  have hs : 2 ^ (j + 1) = 2 ^ j * 2 := Nat.pow_succ _ _
  refine Ev.step (fun k => ?_) (ih (j + 1) (by omega))
  simp only [spec_l6Half.l0]
  rw [w64 (by omega) (by omega), if_pos (by omega)]
  congr 1
  omega
theorem spec_half (n : Nat) (h2 : 2 ≤ n) (hn : n ≤ 4611686018427387904) : Ev (fun k => spec_l6Half.f k (n : Int)) ((half n : Nat) : Int) := half_l0 n h2 hn (n - 1).log2 0 rfl
theorem half_same (k : Nat) (n x : Int) : impl_half.l0 k n x = spec_l6Half.l0 k n x := by
 induction k generalizing x with
 | zero => simp only [impl_half.l0, spec_l6Half.l0]
 | succ k ih =>
  simp only [impl_half.l0, spec_l6Half.l0]
  rw [ih, Int.mul_comm]
theorem impl_half_ev (n : Nat) (h2 : 2 ≤ n) (hn : n ≤ 4611686018427387904) : Ev (fun k => impl_half.f k (n : Int)) ((half n : Nat) : Int) := by
 refine Ev.congr (fun k => ?_) (spec_half n h2 hn)
 unfold impl_half.f spec_l6Half.f
 rw [half_same]
def rootBy (lf : ByteArray → ByteArray) (l : List ByteArray) : ByteArray :=
 if h : 2 ≤ l.length then nodeH (rootBy lf (l.take (half l.length))) (rootBy lf (l.drop (half l.length)))
 else match l with
  | [] => sha []
  | a :: _ => lf a
termination_by l.length
decreasing_by
 ·have := half_lt h
  simp
  omega
 ·have := half_pos l.length
  simp
  omega
theorem rootBy_nil (lf : ByteArray → ByteArray) : rootBy lf [] = sha [] := by
 rw [rootBy]
 simp
theorem rootBy_one (lf : ByteArray → ByteArray) (a : ByteArray) : rootBy lf [a] = lf a := by
 rw [rootBy]
 simp
theorem rootBy_more (lf : ByteArray → ByteArray) {l : List ByteArray} (h : 2 ≤ l.length) : rootBy lf l = nodeH (rootBy lf (l.take (half l.length))) (rootBy lf (l.drop (half l.length))) := by
 rw [rootBy, dif_pos h]
theorem list_one {l : List ByteArray} (h : l.length = 1) : ∃ a, l = [a] := by
 match l, h with
 | [a], _ => exact ⟨a, rfl⟩
theorem rootBy_size (lf : ByteArray → ByteArray) (b : Nat) (hb : 32 ≤ b) (l : List ByteArray) (hl : ∀ x ∈ l, (lf x).size ≤ b) : (rootBy lf l).size ≤ b := by
 by_cases h : 2 ≤ l.length
 ·rw [rootBy_more lf h, nodeH_size]
  exact hb
 ·match l, h with
  | [], _ => rw [rootBy_nil, sha_size]; exact hb
  | [a], _ => rw [rootBy_one]; exact hl a (by simp)
  | _ :: _ :: _, h => simp at h
theorem cut_parts (l : List ByteArray) (h : 2 ≤ l.length) : 1 ≤ (l.take (half l.length)).length ∧ (l.take (half l.length)).length < l.length ∧ 1 ≤ (l.drop (half l.length)).length ∧ (l.drop (half l.length)).length < l.length := by
 have h1 := half_pos l.length
 have h2 := half_lt h
 simp
 omega
theorem or_swap (a b : Int) : Go.bits .or .i64 a b = Go.bits .or .i64 b a := by
 have e : ∀ x y : Int, Go.bits .or .i64 x y = IntKind.i64.wrap ((BitVec.ofInt 64 x ||| BitVec.ofInt 64 y).toNat : Int) := fun x y => rfl
 rw [e, e, BitVec.or_comm]
def InB (l : List Int) : Prop := ∀ x ∈ l, 0 ≤ x ∧ x ≤ 255
theorem inB_nil : InB [] := fun x hx => by simp at hx
theorem inB_app {a b : List Int} (ha : InB a) (hb : InB b) : InB (a ++ b) := fun x hx => by
 rcases List.mem_append.1 hx with hx | hx
 ·exact ha x hx
 ·exact hb x hx
theorem inB_text (s : ByteArray) : InB (bytesOf s) := fun x hx => bytesOf_range s x hx
def num (n : Nat) : List Int := if 127 < n then ((128 + n % 128 : Nat) : Int) :: num (n / 128) else [(n : Int)]
termination_by n
decreasing_by omega
theorem num_more {n : Nat} (h : 127 < n) : num n = ((128 + n % 128 : Nat) : Int) :: num (n / 128) := by rw [num, if_pos h]
theorem num_one {n : Nat} (h : ¬ 127 < n) : num n = [(n : Int)] := by rw [num, if_neg h]
theorem num_inB (n : Nat) : InB (num n) := by
 induction n using Nat.strongRecOn with
 | ind n ih =>
  by_cases h : 127 < n
  ·rw [num_more h]
   intro x hx
   rcases List.mem_cons.1 hx with hx | hx
   ·omega
   ·exact ih (n / 128) (by omega) x hx
  ·rw [num_one h]
   intro x hx
   rw [List.mem_singleton.1 hx]
   omega
theorem num_pos (n : Nat) : 1 ≤ (num n).length := by
 by_cases h : 127 < n
 ·rw [num_more h]
  simp
 ·rw [num_one h]
  simp
theorem num_len : ∀ (k n : Nat), n < 128 ^ (k + 1) → (num n).length ≤ k + 1 := by
 intro k
 induction k with
 | zero =>
  intro n h
  rw [num_one (by omega)]
  simp
 | succ k ih =>
  intro n h
  by_cases h2 : 127 < n
  ·rw [num_more h2, List.length_cons]
   have := ih (n / 128) (by rw [Nat.pow_succ] at h; omega)
   omega
  ·rw [num_one h2]
   simp
theorem num_five {n : Nat} (h : n ≤ 1000000000) : (num n).length ≤ 5 := num_len 4 n (by omega)
theorem num_inj : ∀ (n m : Nat) (r s : List Int), num n ++ r = num m ++ s → n = m ∧ r = s := by
 intro n
 induction n using Nat.strongRecOn with
 | ind n ih =>
  intro m r s h
  by_cases h1 : 127 < n
  ·by_cases h2 : 127 < m
   ·rw [num_more h1, num_more h2, List.cons_append, List.cons_append] at h
    injection h with ha hb
    obtain ⟨e1, e2⟩ := ih (n / 128) (by omega) (m / 128) r s hb
    exact ⟨by omega, e2⟩
   ·rw [num_more h1, num_one h2, List.cons_append, List.cons_append] at h
    injection h with ha hb
    omega
  ·by_cases h2 : 127 < m
   ·rw [num_one h1, num_more h2, List.cons_append, List.cons_append] at h
    injection h with ha hb
    omega
   ·rw [num_one h1, num_one h2, List.cons_append, List.cons_append] at h
    injection h with ha hb
    exact ⟨by omega, by simpa using hb⟩
def textB (s : ByteArray) : List Int := num s.size ++ bytesOf s
def manyB (t : List ByteArray) : List Int := (t.map textB).flatten
def textsB (t : List ByteArray) : List Int := num t.length ++ manyB t
theorem textB_inB (s : ByteArray) : InB (textB s) := inB_app (num_inB _) (inB_text s)
theorem manyB_nil : manyB [] = [] := rfl
theorem manyB_cons (s : ByteArray) (t : List ByteArray) : manyB (s :: t) = textB s ++ manyB t := rfl
theorem textB_length (s : ByteArray) : (textB s).length = (num s.size).length + s.size := by
 unfold textB
 rw [List.length_append, bytesOf_length]
theorem bytesOf_inj {a b : ByteArray} (h : bytesOf a = bytesOf b) : a = b := by
 apply bytes_ext
 rw [Go.Lib.toList_data, Go.Lib.toList_data]
 unfold bytesOf at h
 refine List.map_inj_right (fun x y e => ?_) |>.1 h
 exact UInt8.toNat_inj.1 (by omega)
theorem textB_inj {a b : ByteArray} {r s : List Int} (h : textB a ++ r = textB b ++ s) : a = b ∧ r = s := by
 unfold textB at h
 rw [List.append_assoc, List.append_assoc] at h
 obtain ⟨h1, h2⟩ := num_inj _ _ _ _ h
 obtain ⟨h3, h4⟩ := List.append_inj h2 (by rw [bytesOf_length, bytesOf_length, h1])
 exact ⟨bytesOf_inj h3, h4⟩
theorem manyB_inj : ∀ (a b : List ByteArray) (r s : List Int), a.length = b.length → manyB a ++ r = manyB b ++ s → a = b ∧ r = s := by
 intro a
 induction a with
 | nil =>
  intro b r s hl h
  obtain rfl := List.eq_nil_of_length_eq_zero hl.symm
  exact ⟨rfl, by simpa [manyB_nil] using h⟩
 | cons x a ih =>
  intro b r s hl h
  cases b with
  | nil => cases hl
  | cons y b =>
   rw [manyB_cons, manyB_cons, List.append_assoc, List.append_assoc] at h
   obtain ⟨e1, e2⟩ := textB_inj h
   obtain ⟨e3, e4⟩ := ih b r s (by simpa using hl) e2
   exact ⟨by rw [e1, e3], e4⟩
theorem textsB_inj {a b : List ByteArray} {r s : List Int} (h : textsB a ++ r = textsB b ++ s) : a = b ∧ r = s := by
 unfold textsB at h
 rw [List.append_assoc, List.append_assoc] at h
 obtain ⟨h1, h2⟩ := num_inj _ _ _ _ h
 exact manyB_inj a b r s h1 h2
theorem and127 (c : Int) (h0 : 0 ≤ c) (h1 : c < 9223372036854775808) : Go.bits .and .i64 c 127 = c % 128 := bits_mask .i64 63 (by decide) wraps63 7 (by decide) c h0 h1
theorem or128 (c : Int) (h0 : 0 ≤ c) (h1 : c < 128) : Go.bits .or .i64 c 128 = 128 + c := by
 rw [or_swap]
 exact bits_join .i64 63 (by decide) wraps63 7 128 c (by decide) (by decide) (by decide) h0 h1 (by omega)
theorem bit_at (n c p u : Int) (e : Nat) (hu : u = (e : Int)) (he : e ≤ 28) (hp : p = 2 ^ e) (hq : p ≤ 268435456) (hn0 : 0 ≤ n) (hn1 : n < p) (hc0 : 0 ≤ c) (hc1 : c ≤ 255) : Go.bits .or .i64 n (shl .i64 (Go.bits .and .i64 c 127) u) = n + p * (c % 128) := by
 rw [and127 c hc0 (by omega)]
 obtain ⟨d, hd⟩ : ∃ d, c % 128 = d := ⟨_, rfl⟩
 have hd0 : 0 ≤ d := by omega
 have hd1 : d ≤ 127 := by omega
 rw [hd]
 have hp0 : 0 ≤ p := by omega
 have hm : d * p ≤ 127 * 268435456 := Int.mul_le_mul hd1 hq hp0 (by decide)
 have hm0 : 0 ≤ d * p := Int.mul_nonneg hd0 hp0
 have hs : shl .i64 d u = d * p := by
  unfold shl
  rw [hu, Int.toNat_natCast, Nat.min_eq_left (show e ≤ IntKind.i64.bits by show e ≤ 64; omega), ← hp]
  exact wraps63 _ hm0 (by omega)
 rw [hs, or_swap, bits_join .i64 63 (by decide) wraps63 e (d * p) n hm0 (by rw [hp]; exact Int.mul_emod_left _ _) (by omega) hn0 (by rw [← hp]; exact hn1) (by omega), Int.mul_comm d p]
 omega
theorem u64_w (n : Int) : IntKind.u64.wrap n = n % 18446744073709551616 := by simp [IntKind.wrap, IntKind.bits, IntKind.signed]
theorem u7 (k : Nat) (hk : k ≤ 4) : IntKind.u64.wrap (wrap64 (7 * (k : Int))) = ((7 * k : Nat) : Int) := by
 rw [w64 (by omega) (by omega), u64_w]
 omega
theorem pow7 (k : Nat) : (128 : Nat) ^ k = 2 ^ (7 * k) := by rw [Nat.pow_mul]
theorem bit_step (n c k : Nat) (hk : k ≤ 4) (hn : n < 128 ^ k) (hc : c ≤ 255) : Go.bits .or .i64 (n : Int) (shl .i64 (Go.bits .and .i64 (c : Int) 127) ((7 * k : Nat) : Int)) = ((n + 128 ^ k * (c % 128) : Nat) : Int) := by
 have h4 : (128 : Nat) ^ k ≤ 128 ^ 4 := Nat.pow_le_pow_right (by decide) hk
 have h5 : (128 : Nat) ^ 4 = 268435456 := by decide
 have e := pow7 k
 have := bit_at (n : Int) (c : Int) ((128 ^ k : Nat) : Int) _ (7 * k) rfl (by omega) (by rw [e, Int.natCast_pow]; rfl) (by omega) (by omega) (by omega) (by omega) (by omega)
 rw [this, Int.natCast_add, Int.natCast_mul, Int.natCast_emod]
 rfl
def NumAt (b : List Int) (a k n : Nat) (m x : Int) (ok : Bool) : Prop :=
 (ok = false → m = 0 ∧ x = 0 ∧ ∀ N r, b.drop (a + k) = num N ++ r → n + 128 ^ k * N ≤ 1000000000 → (0 < k → 0 < N) → False) ∧
 (ok = true → ∃ N : Nat, m = ((n + 128 ^ k * N : Nat) : Int) ∧ n + 128 ^ k * N ≤ 1000000000 ∧ (0 < k → 0 < N) ∧ b.drop (a + k) = num N ++ b.drop (a + k + (num N).length) ∧ x = ((a + k + (num N).length : Nat) : Int) ∧ a + k + (num N).length ≤ b.length)
theorem numAt_more {b : List Int} {a k n c : Nat} {m x : Int} {ok : Bool} (hk : k ≤ 4) (hd : b.drop (a + k) = (c : Int) :: b.drop (a + k + 1)) (hc : 127 < c) (hc2 : c ≤ 255) (h : NumAt b a (k + 1) (n + 128 ^ k * (c % 128)) m x ok) : NumAt b a k n m x ok := by
 have e : ∀ N, n + 128 ^ k * (c % 128) + 128 ^ (k + 1) * N = n + 128 ^ k * (c % 128 + 128 * N) := fun N => by
  rw [Nat.pow_succ, Nat.mul_add, Nat.mul_assoc]
  omega
 refine ⟨fun ho => ?_, fun ho => ?_⟩
 ·obtain ⟨h1, h2, h3⟩ := h.1 ho
  refine ⟨h1, h2, fun N r hN hM hP => ?_⟩
  by_cases h9 : 127 < N
  ·rw [num_more h9, hd, List.cons_append] at hN
   injection hN with ha hb
   refine h3 (N / 128) r hb ?_ (fun _ => by omega)
   rw [e]
   have : c % 128 + 128 * (N / 128) = N := by omega
   rw [this]
   exact hM
  ·rw [num_one h9, hd, List.cons_append] at hN
   injection hN with ha hb
   omega
 ·obtain ⟨N, h1, h2, h3, h4, h5, h6⟩ := h.2 ho
  have h3 := h3 (by omega)
  have hN : 127 < c % 128 + 128 * N := by omega
  have hn : num (c % 128 + 128 * N) = (c : Int) :: num N := by
   rw [num_more hN, show (c % 128 + 128 * N) / 128 = N by omega]
   congr 1
   omega
  refine ⟨c % 128 + 128 * N, by rw [h1, e], by rw [← e]; exact h2, fun _ => by omega, ?_, ?_, ?_⟩
  ·rw [hn, hd, List.length_cons, List.cons_append]
   congr 1
   rw [show a + k + ((num N).length + 1) = a + (k + 1) + (num N).length by omega]
   exact h4
  ·rw [hn, List.length_cons, h5]
   congr 1
   omega
  ·rw [hn, List.length_cons]
   omega
theorem numAt_zero {b : List Int} {a k n : Nat} (hk : 0 < k) (hd : b.drop (a + k) = (0 : Int) :: b.drop (a + k + 1)) : NumAt b a k n 0 0 false := by
 refine ⟨fun _ => ⟨rfl, rfl, fun N r hN hM hP => ?_⟩, fun h => by cases h⟩
 have hP := hP hk
 by_cases h9 : 127 < N
 ·rw [num_more h9, hd, List.cons_append] at hN
  injection hN with ha hb
  omega
 ·rw [num_one h9, hd, List.cons_append] at hN
  injection hN with ha hb
  omega
theorem numAt_great {b : List Int} {a k n c : Nat} (hc : ¬ 127 < c) (hd : b.drop (a + k) = (c : Int) :: b.drop (a + k + 1)) (hg : 1000000000 < n + 128 ^ k * (c % 128)) : NumAt b a k n 0 0 false := by
 refine ⟨fun _ => ⟨rfl, rfl, fun N r hN hM hP => ?_⟩, fun h => by cases h⟩
 by_cases h9 : 127 < N
 ·rw [num_more h9, hd, List.cons_append] at hN
  injection hN with ha hb
  omega
 ·rw [num_one h9, hd, List.cons_append] at hN
  injection hN with ha hb
  have : c % 128 = N := by omega
  rw [this] at hg
  omega
theorem numAt_last {b : List Int} {a k n c : Nat} (hc : ¬ 127 < c) (h0 : 0 < k → 0 < c) (hl : a + k < b.length) (hd : b.drop (a + k) = (c : Int) :: b.drop (a + k + 1)) (hg : n + 128 ^ k * (c % 128) ≤ 1000000000) : NumAt b a k n ((n + 128 ^ k * (c % 128) : Nat) : Int) ((a + k + 1 : Nat) : Int) true := by
 refine ⟨fun h => (by cases h), fun _ => ⟨c, ?_, ?_, h0, ?_, ?_, ?_⟩⟩
 ·rw [show c % 128 = c by omega]
 ·rw [show c % 128 = c by omega] at hg
  exact hg
 ·rw [num_one hc, hd]
  simp
 ·rw [num_one hc]
  simp
 ·rw [num_one hc]
  simp
  omega
theorem numAt_end {b : List Int} {a k n : Nat} (hl : b.length ≤ a + k) : NumAt b a k n 0 0 false := by
 refine ⟨fun _ => ⟨rfl, rfl, fun N r hN hM hP => ?_⟩, fun h => by cases h⟩
 rw [List.drop_eq_nil_of_le hl] at hN
 have := congrArg List.length hN
 have h2 := num_pos N
 rw [List.length_append] at this
 simp only [List.length_nil] at this
 omega
theorem numAt_five {b : List Int} {a n : Nat} : NumAt b a 5 n 0 0 false := by
 refine ⟨fun _ => ⟨rfl, rfl, fun N r hN hM hP => ?_⟩, fun h => by cases h⟩
 have hP := hP (by decide)
 omega
set_option maxHeartbeats 1000000 in
theorem getNum_loop (b : List Int) (hb : InB b) (hl : b.length ≤ 1099511627776) (a : Nat) (hA : a ≤ 1099511627776) : ∀ (d k : Nat), k + d = 5 → ∀ n : Nat, n < 128 ^ k → ∃ m x ok, Ev (fun q => spec_GetNum.l0 q b (a : Int) (n : Int) (k : Int)) (m, x, ok) ∧ Ev (fun q => impl_GetNum.l0 q b ((a + k : Nat) : Int) (n : Int) (k : Int)) (m, x, ok) ∧ NumAt b a k n m x ok := by
 have sEnd : ∀ (n k : Int), Ev (fun q => spec_GetNum.j1 q b (a : Int) n k false) (0, 0, false) := fun n k => by
  refine Ev.step (fun q => by simp only [spec_GetNum.j1]; rfl) ?_
  exact Ev.neg (by simp) (Ev.now _)
 have iEnd : ∀ (x n k : Int), Ev (fun q => impl_GetNum.j1 q b x n k false) (0, 0, false) := fun x n k => by
  refine Ev.step (fun q => by simp only [impl_GetNum.j1]; rfl) ?_
  exact Ev.neg (by simp) (Ev.now _)
 intro d
 induction d with
 | zero =>
  intro k hk n hn
  obtain rfl : k = 5 := by omega
  refine ⟨0, 0, false, ?_, ?_, numAt_five⟩
  ·refine Ev.step (fun q => by simp only [spec_GetNum.l0]; rfl) ?_
   exact Ev.neg (by omega) (sEnd _ _)
  ·refine Ev.step (fun q => by simp only [impl_GetNum.l0]; rfl) ?_
   exact Ev.neg (by omega) (iEnd _ _ _)
 | succ d ih =>
  intro k hk n hn
  have hk4 : k ≤ 4 := by omega
  have e1 := am_ (show wrap64 ((a : Int) + (k : Int)) = ((a + k : Nat) : Int) by
   rw [w64 (by omega) (by omega)]
   omega)
  have hk5 : (k : Int) < 5 := by omega
  by_cases hx : a + k < b.length
  ·obtain ⟨c, hc⟩ := get_some (l := b) (i := a + k) hx
   have hd := drop_one hc
   have hcr := hb c (List.mem_of_getElem? hc)
   obtain ⟨c, rfl⟩ := Int.eq_ofNat_of_zero_le hcr.1
   have hc255 : c ≤ 255 := by omega
   have e2 := am_ (show rd b ((a + k : Nat) : Int) = (c : Int) from rd_at hc)
   have e3 := am_ (show wrap64 (c : Int) = (c : Int) from w64 (by omega) (by omega))
   have e4 := am_ (u7 k hk4)
   have e5 := am_ (bit_step n c k hk4 hn hc255)
   have e6 := am_ (show wrap64 ((k : Int) + 1) = ((k + 1 : Nat) : Int) by
    rw [w64 (by omega) (by omega)]
    omega)
   have e7 := am_ (show wrap64 (((a + k : Nat) : Int) + 1) = ((a + (k + 1) : Nat) : Int) by
    rw [w64 (by omega) (by omega)]
    omega)
   have hlt : ((a + k : Nat) : Int) < (b.length : Int) := by omega
   have h70 : (0 : Int) ≤ ((7 * k : Nat) : Int) := by omega
   have ha0 : (0 : Int) ≤ ((a + k : Nat) : Int) := by omega
   have key : ∀ r, Ev (fun q => spec_GetNum.j1 q b (a : Int) (n : Int) (k : Int) true) r → Ev (fun q => spec_GetNum.l0 q b (a : Int) (n : Int) (k : Int)) r := fun r h => by
    refine Ev.step (fun q => by simp only [spec_GetNum.l0, e1.out, decide_eq_true hlt]; rfl) ?_
    exact Ev.pos hk5 (Ev.pos (by omega) (Ev.pos (by omega) h))
   have key2 : ∀ r, Ev (fun q => impl_GetNum.j1 q b ((a + k : Nat) : Int) (n : Int) (k : Int) true) r → Ev (fun q => impl_GetNum.l0 q b ((a + k : Nat) : Int) (n : Int) (k : Int)) r := fun r h => by
    refine Ev.step (fun q => by simp only [impl_GetNum.l0, decide_eq_true hlt]; rfl) ?_
    exact Ev.pos hk5 h
   by_cases h127 : 127 < c
   ·have hn2 : n + 128 ^ k * (c % 128) < 128 ^ (k + 1) := by
     have := Nat.mul_le_mul_left (128 ^ k) (show c % 128 ≤ 127 by omega)
     rw [Nat.pow_succ]
     omega
    obtain ⟨m, x, ok, s1, s2, s3⟩ := ih (k + 1) (by omega) _ hn2
    refine ⟨m, x, ok, key _ ?_, key2 _ ?_, numAt_more hk4 hd h127 hc255 s3⟩
    ·refine Ev.step (fun q => by simp only [spec_GetNum.j1, e1.out, e2.out, e3.out, e4.out, e5.out, e6.out]; rfl) ?_
     exact Ev.pos trivial (Ev.pos ha0 (Ev.pos hlt (Ev.pos h70 (Ev.pos (by omega) s1))))
    ·refine Ev.step (fun q => by simp only [impl_GetNum.j1, e2.out, e3.out, e4.out, e5.out, e6.out, e7.out]; rfl) ?_
     exact Ev.pos trivial (Ev.pos ha0 (Ev.pos hlt (Ev.pos h70 (Ev.neg (by omega) s2))))
   ·by_cases hz : 0 < k ∧ c = 0
    ·obtain ⟨hk0, rfl⟩ := hz
     refine ⟨0, 0, false, key _ ?_, key2 _ ?_, numAt_zero hk0 hd⟩
     ·refine Ev.step (fun q => by simp only [spec_GetNum.j1, e1.out, e2.out, e3.out, e4.out, e5.out, e6.out]; rfl) ?_
      exact Ev.pos trivial (Ev.pos ha0 (Ev.pos hlt (Ev.pos h70 (Ev.neg (by omega) (Ev.pos (by omega) (Ev.pos (by omega) (Ev.now _)))))))
     ·refine Ev.step (fun q => by simp only [impl_GetNum.j1, e2.out, e3.out, e4.out, e5.out, e6.out, e7.out]; rfl) ?_
      exact Ev.pos trivial (Ev.pos ha0 (Ev.pos hlt (Ev.pos h70 (Ev.pos (by omega) (Ev.pos (by omega) (Ev.pos (by omega) (Ev.now _)))))))
    ·obtain ⟨v, hv⟩ : ∃ v, n + 128 ^ k * (c % 128) = v := ⟨_, rfl⟩
     by_cases hg : 1000000000 < v
     ·refine ⟨0, 0, false, key _ ?_, key2 _ ?_, numAt_great h127 hd (by rw [hv]; exact hg)⟩
      ·refine Ev.step (fun q => by simp only [spec_GetNum.j1, e1.out, e2.out, e3.out, e4.out, e5.out, e6.out, hv]; rfl) ?_
       refine Ev.pos trivial (Ev.pos ha0 (Ev.pos hlt (Ev.pos h70 (Ev.neg (by omega) ?_))))
       by_cases hk0 : 0 < k
       ·exact Ev.pos (by omega) (Ev.neg (by omega) (Ev.pos (by omega) (Ev.now _)))
       ·exact Ev.neg (by omega) (Ev.pos (by omega) (Ev.now _))
      ·refine Ev.step (fun q => by simp only [impl_GetNum.j1, e2.out, e3.out, e4.out, e5.out, e6.out, e7.out, hv]; rfl) ?_
       refine Ev.pos trivial (Ev.pos ha0 (Ev.pos hlt (Ev.pos h70 (Ev.pos (by omega) ?_))))
       by_cases hc0 : c = 0
       ·exact Ev.pos (by omega) (Ev.neg (by omega) (Ev.pos (by omega) (Ev.now _)))
       ·exact Ev.neg (by omega) (Ev.pos (by omega) (Ev.now _))
     ·have hlast := numAt_last (n := n) h127 (fun hk0 => by omega) hx hd (by rw [hv]; omega)
      rw [hv] at hlast
      refine ⟨(v : Int), ((a + k + 1 : Nat) : Int), true, key _ ?_, key2 _ ?_, hlast⟩
      ·refine Ev.step (fun q => by simp only [spec_GetNum.j1, e1.out, e2.out, e3.out, e4.out, e5.out, e6.out, e7.out, hv]; rfl) ?_
       refine Ev.pos trivial (Ev.pos ha0 (Ev.pos hlt (Ev.pos h70 (Ev.neg (by omega) ?_))))
       by_cases hk0 : 0 < k
       ·exact Ev.pos (by omega) (Ev.neg (by omega) (Ev.neg (by omega) (Ev.now _)))
       ·exact Ev.neg (by omega) (Ev.neg (by omega) (Ev.now _))
      ·refine Ev.step (fun q => by simp only [impl_GetNum.j1, e2.out, e3.out, e4.out, e5.out, e6.out, e7.out, hv]; rfl) ?_
       refine Ev.pos trivial (Ev.pos ha0 (Ev.pos hlt (Ev.pos h70 (Ev.pos (by omega) ?_))))
       by_cases hc0 : c = 0
       ·exact Ev.pos (by omega) (Ev.neg (by omega) (Ev.neg (by omega) (Ev.now _)))
       ·exact Ev.neg (by omega) (Ev.neg (by omega) (Ev.now _))
  ·refine ⟨0, 0, false, ?_, ?_, numAt_end (by omega)⟩
   ·have hn : ¬ ((a + k : Nat) : Int) < (b.length : Int) := by omega
    refine Ev.step (fun q => by simp only [spec_GetNum.l0, e1.out, decide_eq_false hn]; rfl) ?_
    refine Ev.pos hk5 (Ev.pos (by omega) ?_)
    by_cases h2 : (a : Int) < (b.length : Int)
    ·exact Ev.pos h2 (sEnd _ _)
    ·exact Ev.neg h2 (sEnd _ _)
   ·have hn : ¬ ((a + k : Nat) : Int) < (b.length : Int) := by omega
    refine Ev.step (fun q => by simp only [impl_GetNum.l0, decide_eq_false hn]; rfl) ?_
    exact Ev.pos hk5 (iEnd _ _ _)
def NumOf (b : List Int) (at_ m x : Int) (ok : Bool) : Prop :=
 (ok = false → m = 0 ∧ x = 0 ∧ ∀ (a N : Nat) r, at_ = (a : Int) → b.drop a = num N ++ r → N ≤ 1000000000 → False) ∧
 (ok = true → ∃ a N : Nat, at_ = (a : Int) ∧ m = (N : Int) ∧ N ≤ 1000000000 ∧ b.drop a = num N ++ b.drop (a + (num N).length) ∧ x = ((a + (num N).length : Nat) : Int) ∧ a + (num N).length ≤ b.length)
theorem getNum_both (b : List Int) (hb : InB b) (hl : b.length ≤ 1099511627776) (at_ : Int) (h0 : -9223372036854775808 ≤ at_) (h1 : at_ ≤ 9223372036854775807) : ∃ m x ok, Ev (fun q => spec_GetNum.f q b at_) (m, x, ok) ∧ Ev (fun q => impl_GetNum.f q b at_) (m, x, ok) ∧ NumOf b at_ m x ok := by
 have hw : wrap64 ((b.length : Int) - 1) = (b.length : Int) - 1 := w64 (by omega) (by omega)
 by_cases hr : 0 ≤ at_ ∧ at_ ≤ (b.length : Int) - 1
 ·obtain ⟨a, rfl⟩ := Int.eq_ofNat_of_zero_le hr.1
  obtain ⟨m, x, ok, s1, s2, s3⟩ := getNum_loop b hb hl a (by omega) 5 0 rfl 0 (by decide)
  refine ⟨m, x, ok, ?_, ?_, ?_⟩
  ·exact s1
  ·unfold impl_GetNum.f
   rw [hw]
   exact Ev.bind (Ev.const (impl_in_eq _ _ _)) (Ev.pos (decide_eq_true hr) s2)
  ·refine ⟨fun ho => ?_, fun ho => ?_⟩
   ·obtain ⟨q1, q2, q3⟩ := s3.1 ho
    refine ⟨q1, q2, fun a' N r ha' hN hM => ?_⟩
    obtain rfl : a = a' := by omega
    exact q3 N r hN (by simpa using hM) (fun h => by omega)
   ·obtain ⟨N, q1, q2, _, q4, q5, q6⟩ := s3.2 ho
    exact ⟨a, N, rfl, by simpa using q1, by simpa using q2, by simpa using q4, by simpa using q5, by simpa using q6⟩
 ·refine ⟨0, 0, false, ?_, ?_, ?_⟩
  ·unfold spec_GetNum.f
   refine Ev.step (fun q => by simp only [spec_GetNum.l0]; rfl) ?_
   have hj : ∀ x : Bool, x = false → Ev (fun q => spec_GetNum.j1 q b at_ 0 0 x) (0, 0, false) := fun x hx => by
    subst hx
    refine Ev.step (fun q => by simp only [spec_GetNum.j1]; rfl) ?_
    exact Ev.neg (by simp) (Ev.now _)
   refine Ev.pos (by decide) ?_
   by_cases h2 : at_ ≥ 0
   ·refine Ev.pos h2 (Ev.neg (by omega) (hj _ rfl))
   ·exact Ev.neg h2 (hj _ rfl)
  ·unfold impl_GetNum.f
   rw [hw]
   exact Ev.bind (Ev.const (impl_in_eq _ _ _)) (Ev.neg (by rw [decide_eq_false hr]; simp) (Ev.now _))
  ·refine ⟨fun _ => ⟨rfl, rfl, fun a N r ha hN hM => ?_⟩, fun h => by cases h⟩
   have h2 := num_pos N
   have := congrArg List.length hN
   rw [List.length_append, List.length_drop] at this
   omega
theorem byte_more (x : Nat) (h : x ≤ 1000000000) : (Go.bits .or .i64 (Go.bits .and .i64 (x : Int) 127) 128) % 256 = ((128 + x % 128 : Nat) : Int) := by
 rw [and127 _ (by omega) (by omega), or128 _ (by omega) (by omega)]
 omega
theorem num_val : ∀ (k x : Nat) (acc : List Int), x < 128 ^ (k + 1) → x ≤ 1000000000 → acc.length + k ≤ 1099511627776 →
  Ev (fun q => spec_PutNum.l0 q (x : Int) acc) (acc ++ num x) ∧ Ev (fun q => impl_putNum.l0 q acc (x : Int)) (acc ++ num x) := by
 intro k
 induction k with
 | zero =>
  intro x acc h1 h2 h3
  have hx : ¬ (x : Int) > 127 := by omega
  have e : (x : Int) % 256 = (x : Int) := by omega
  rw [num_one (by omega)]
  refine ⟨?_, ?_⟩
  ·refine Ev.step (fun q => by simp only [spec_PutNum.l0, e]; rfl) ?_
   exact Ev.neg hx (Ev.pos (by omega) (Ev.now _))
  ·refine Ev.step (fun q => by simp only [impl_putNum.l0, e]; rfl) ?_
   exact Ev.neg hx (Ev.pos (by omega) (Ev.now _))
 | succ k ih =>
  intro x acc h1 h2 h3
  by_cases hx : (x : Int) > 127
  ·have e1 := am_ (byte_more x h2)
   have e2 := am_ (show (x : Int) / 128 = ((x / 128 : Nat) : Int) by omega)
   have hp : x / 128 < 128 ^ (k + 1) := by
    rw [Nat.pow_succ] at h1
    omega
   obtain ⟨i1, i2⟩ := ih (x / 128) (acc ++ [((128 + x % 128 : Nat) : Int)]) hp (by omega) (by simp; omega)
   have en : acc ++ num x = acc ++ [((128 + x % 128 : Nat) : Int)] ++ num (x / 128) := by
    rw [num_more (by omega)]
    simp
   rw [en]
   refine ⟨?_, ?_⟩
   ·refine Ev.step (fun q => by simp only [spec_PutNum.l0, e1.out, e2.out]; rfl) ?_
    exact Ev.pos hx (Ev.pos (by omega) i1)
   ·refine Ev.step (fun q => by simp only [impl_putNum.l0, or_swap 128 (Go.bits .and .i64 (x : Int) 127), e1.out, e2.out]; rfl) ?_
    exact Ev.pos hx (Ev.pos (by omega) i2)
  ·have e : (x : Int) % 256 = (x : Int) := by omega
   rw [num_one (by omega)]
   refine ⟨?_, ?_⟩
   ·refine Ev.step (fun q => by simp only [spec_PutNum.l0, e]; rfl) ?_
    exact Ev.neg hx (Ev.pos (by omega) (Ev.now _))
   ·refine Ev.step (fun q => by simp only [impl_putNum.l0, e]; rfl) ?_
    exact Ev.neg hx (Ev.pos (by omega) (Ev.now _))
theorem putNum_val (l : List Int) (n : Nat) (hn : n ≤ 1000000000) (hl : l.length ≤ 1099511627000) : Ev (fun q => spec_PutNum.f q l (n : Int)) (l ++ num n) ∧ Ev (fun q => impl_putNum.f q l (n : Int)) (l ++ num n) := by
 have hm : mx 0 (mn (n : Int) 1000000000) = (n : Int) := by
  unfold mx mn
  by_cases h : (1000000000 : Int) < (n : Int)
  ·omega
  ·rw [if_neg h]
   by_cases h2 : (0 : Int) < (n : Int)
   ·rw [if_pos h2]
   ·rw [if_neg h2]
    omega
 obtain ⟨i1, i2⟩ := num_val 4 n l (by omega) hn (by omega)
 refine ⟨?_, ?_⟩
 ·unfold spec_PutNum.f
  refine Ev.bind (Ev.now _) ?_
  simp only [List.nil_append, List.length_nil]
  refine Ev.pos (by omega) (Ev.bind (Ev.now _) (Ev.neg (by omega) ?_))
  refine Ev.step (fun q => by simp only [spec_PutNum.j0]; rfl) ?_
  refine Ev.neg (by omega) ?_
  exact Ev.step (fun q => by simp only [spec_PutNum.j1]) i1
 ·unfold impl_putNum.f
  rw [hm]
  exact i2
theorem putText_val (l : List Int) (s : ByteArray) (hs : s.size ≤ 1000000000) (hl : l.length ≤ 1099511626000) : Ev (fun q => spec_PutText.f q l s) (l ++ textB s) ∧ Ev (fun q => impl_putText.f q l s) (l ++ textB s) := by
 obtain ⟨i1, i2⟩ := putNum_val l s.size hs (by omega)
 have h5 := num_five hs
 unfold textB
 rw [← List.append_assoc]
 refine ⟨?_, ?_⟩
 ·unfold spec_PutText.f
  exact Ev.bind i1 (Ev.pos (by rw [List.length_append]; omega) (Ev.now _))
 ·unfold impl_putText.f
  exact Ev.bind i2 (Ev.pos (by rw [List.length_append]; omega) (Ev.now _))
theorem manyB_length (t : List ByteArray) (h : ∀ s ∈ t, s.size ≤ 1000000000) : ((manyB t).length : Int) ≤ 5 * t.length + total t := by
 induction t with
 | nil => simp [manyB_nil, total]
 | cons s t ih =>
  have i := ih (fun x hx => h x (List.mem_cons_of_mem _ hx))
  have h5 := num_five (h s (List.mem_cons_self ..))
  rw [manyB_cons, List.length_append, textB_length, total_cons, List.length_cons]
  omega
set_option maxHeartbeats 1000000 in
theorem putTexts_val (l : List Int) (t : List ByteArray) (hl : (l.length : Int) + 10 * t.length + total t ≤ 1099511620000) (ht : t.length ≤ 1000000000) (hs : ∀ s ∈ t, s.size ≤ 1000000000) :
  Ev (fun q => spec_PutTexts.f q l t) (l ++ textsB t) ∧ Ev (fun q => impl_putTexts.f q l t) (l ++ textsB t) := by
 have ht0 := total_nonneg t
 obtain ⟨e1, e2⟩ := putNum_val l t.length ht (by omega)
 have h5 := num_five ht
 have main : ∀ (d i : Nat) (acc : List Int), i + d = t.length → (acc.length : Int) + 10 * d + total (t.drop i) ≤ 1099511621000 → Ev (fun q => spec_PutTexts.l0 q t acc (i : Int)) (acc ++ manyB (t.drop i)) ∧ Ev (fun q => impl_putTexts.l0 q acc t (t.length : Int) (i : Int)) (acc ++ manyB (t.drop i)) := by
  intro d
  induction d with
  | zero =>
   intro i acc hi ha
   have hd : t.drop i = [] := List.drop_eq_nil_of_le (by omega)
   rw [hd, manyB_nil, List.append_nil]
   refine ⟨?_, ?_⟩
   ·refine Ev.step (fun q => by simp only [spec_PutTexts.l0]; rfl) ?_
    exact Ev.neg (by omega) (Ev.now _)
   ·refine Ev.step (fun q => by simp only [impl_putTexts.l0]; rfl) ?_
    exact Ev.neg (by omega) (Ev.now _)
  | succ d ih =>
   intro i acc hi ha
   have hi1 : i < t.length := by
    clear ha hl
    omega
   have hI : (i : Int) < (t.length : Int) := Int.ofNat_lt.2 hi1
   have hI0 : (0 : Int) ≤ (i : Int) := Int.natCast_nonneg i
   obtain ⟨x, hx⟩ := get_some (l := t) (i := i) hi1
   have hd := drop_one hx
   have hxs := hs x (List.mem_of_getElem? hx)
   have hx5 := num_five hxs
   have h0 := total_nonneg (t.drop (i + 1))
   rw [hd, total_cons] at ha
   obtain ⟨p1, p2⟩ := putText_val acc x hxs (by omega)
   obtain ⟨f1, f2⟩ := ih (i + 1) (acc ++ textB x) (by omega) (by rw [List.length_append, textB_length]; omega)
   have nx : wrap64 ((i : Int) + 1) = ((i + 1 : Nat) : Int) := by
    clear ha hl
    rw [w64 (by omega) (by omega)]
    omega
   have en : acc ++ manyB (t.drop i) = acc ++ textB x ++ manyB (t.drop (i + 1)) := by rw [hd, manyB_cons, List.append_assoc]
   rw [en]
   refine ⟨?_, ?_⟩
   ·refine Ev.step (fun q => by simp only [spec_PutTexts.l0]; rfl) ?_
    rw [rdOf_at hx, nx]
    refine Ev.pos hI (Ev.pos hI0 ?_)
    exact Ev.bind (f := fun q z => spec_PutTexts.l0 q t z ((i + 1 : Nat) : Int)) p1 f1
   ·refine Ev.step (fun q => by simp only [impl_putTexts.l0]; rfl) ?_
    rw [rdOf_at hx, nx]
    refine Ev.pos hI (Ev.pos hI0 (Ev.pos hI ?_))
    exact Ev.bind (f := fun q z => impl_putTexts.l0 q z t (t.length : Int) ((i + 1 : Nat) : Int)) p2 f2
 obtain ⟨f1, f2⟩ := main t.length 0 (l ++ num t.length) (by omega) (by rw [List.length_append, List.drop_zero]; omega)
 rw [List.drop_zero] at f1 f2
 unfold textsB
 rw [← List.append_assoc]
 refine ⟨?_, ?_⟩
 ·unfold spec_PutTexts.f
  exact Ev.bind e1 f1
 ·unfold impl_putTexts.f
  exact Ev.bind e2 f2
theorem bytes_nums (l : List Int) (h : InB l) : bytesOf (strOfNums l) = l := by
 unfold bytesOf
 rw [strOfNums_data, List.map_map]
 conv => rhs; rw [← List.map_id l]
 apply List.map_congr_left
 intro x hx
 have := h x hx
 simp only [Function.comp, id]
 rw [UInt8.toNat_ofNat']
 omega
theorem inB_take {l : List Int} (h : InB l) (n : Nat) : InB (l.take n) := fun x hx => h x (List.mem_of_mem_take hx)
theorem inB_drop {l : List Int} (h : InB l) (n : Nat) : InB (l.drop n) := fun x hx => h x (List.mem_of_mem_drop hx)
def TextOf (b : List Int) (at_ : Int) (s : ByteArray) (x : Int) (ok : Bool) : Prop :=
 (ok = false → s = ⟨#[]⟩ ∧ x = 0 ∧ ∀ (a : Nat) (s' : ByteArray) r, at_ = (a : Int) → b.drop a = textB s' ++ r → s'.size ≤ 1000000000 → False) ∧
 (ok = true → ∃ a : Nat, at_ = (a : Int) ∧ s.size ≤ 1000000000 ∧ b.drop a = textB s ++ b.drop (a + (textB s).length) ∧ x = ((a + (textB s).length : Nat) : Int) ∧ a + (textB s).length ≤ b.length)
theorem getText_both (b : List Int) (hb : InB b) (hl : b.length ≤ 1099511627776) (at_ : Int) (h0 : -9223372036854775808 ≤ at_) (h1 : at_ ≤ 9223372036854775807) : ∃ s x ok, Ev (fun q => spec_GetText.f q b at_) (s, x, ok) ∧ Ev (fun q => impl_GetText.f q b at_) (s, x, ok) ∧ TextOf b at_ s x ok := by
 obtain ⟨m, x, ok, e1, e2, hN⟩ := getNum_both b hb hl at_ h0 h1
 unfold spec_GetText.f impl_GetText.f
 cases ok with
 | false =>
  obtain ⟨rfl, rfl, h3⟩ := hN.1 rfl
  refine ⟨⟨#[]⟩, 0, false, Ev.bind e1 (Ev.neg (by simp) (Ev.now _)), Ev.bind e2 (Ev.neg (by simp) (Ev.now _)), fun _ => ⟨rfl, rfl, fun a s' r ha hr hs => ?_⟩, fun h => by cases h⟩
  unfold textB at hr
  rw [List.append_assoc] at hr
  exact h3 a s'.size _ ha hr hs
 | true =>
  obtain ⟨a, N, rfl, rfl, hN1, hd, rfl, hle⟩ := hN.2 rfl
  have hp := num_pos N
  obtain ⟨c, hc⟩ : ∃ c, a + (num N).length = c := ⟨_, rfl⟩
  rw [hc] at e1 e2 hd hle
  clear hN
  by_cases hg : N + c ≤ b.length
  ·have w1 : wrap64 ((b.length : Int) - (c : Int)) = (b.length : Int) - (c : Int) := w64 (by omega) (by omega)
   have w2 : wrap64 ((c : Int) + (N : Int)) = ((c + N : Nat) : Int) := by
    rw [w64 (by omega) (by omega)]
    omega
   have ht : ((c + N : Nat) : Int).toNat = c + N := Int.toNat_natCast _
   have ht2 : (c : Int).toNat = c := Int.toNat_natCast _
   have hrow : (b.take (c + N)).drop c = (b.drop c).take N := by rw [List.drop_take]; congr 1; omega
   have hlen : ((b.drop c).take N).length = N := by rw [List.length_take, List.length_drop]; omega
   have hsz : (strOfNums ((b.drop c).take N)).size = N := by rw [strOfNums_size, hlen]
   have htb : textB (strOfNums ((b.drop c).take N)) = num N ++ (b.drop c).take N := by
    unfold textB
    rw [hsz, bytes_nums _ (inB_take (inB_drop hb c) N)]
   have htl : (textB (strOfNums ((b.drop c).take N))).length = (num N).length + N := by rw [htb, List.length_append, hlen]
   refine ⟨strOfNums ((b.drop c).take N), ((c + N : Nat) : Int), true, ?_, ?_, fun h => (by cases h), fun _ => ⟨a, rfl, by rw [hsz]; exact hN1, ?_, ?_, ?_⟩⟩
   ·refine Ev.bind e1 (Ev.pos rfl ?_)
    simp only [w1, w2, ht, ht2, hrow]
    exact Ev.neg (by omega) (Ev.pos (by omega) (Ev.pos (by omega) (Ev.pos (by omega) (Ev.now _))))
   ·refine Ev.bind e2 (Ev.pos rfl ?_)
    simp only [w1, w2, ht, ht2, hrow]
    exact Ev.neg (by omega) (Ev.pos (by omega) (Ev.pos (by omega) (Ev.pos (by omega) (Ev.now _))))
   ·rw [htl, htb, hd, List.append_assoc]
    congr 1
    rw [show a + ((num N).length + N) = c + N by omega, ← List.drop_drop]
    exact (List.take_append_drop N (b.drop c)).symm
   ·rw [htl]
    congr 1
    omega
   ·rw [htl]
    omega
  ·have w1 : wrap64 ((b.length : Int) - (c : Int)) = (b.length : Int) - (c : Int) := w64 (by omega) (by omega)
   refine ⟨⟨#[]⟩, 0, false, ?_, ?_, fun _ => ⟨rfl, rfl, fun a' s' r ha hr hs => ?_⟩, fun h => by cases h⟩
   ·refine Ev.bind e1 (Ev.pos rfl ?_)
    simp only [w1]
    exact Ev.pos (by omega) (Ev.now _)
   ·refine Ev.bind e2 (Ev.pos rfl ?_)
    simp only [w1]
    exact Ev.pos (by omega) (Ev.now _)
   ·obtain rfl : a = a' := by omega
    unfold textB at hr
    rw [hd, List.append_assoc] at hr
    obtain ⟨k1, k2⟩ := num_inj _ _ _ _ hr
    have := congrArg List.length k2
    rw [List.length_append, bytesOf_length, List.length_drop] at this
    omega
def TextsOf (b : List Int) (at_ : Int) (t : List ByteArray) (x : Int) (ok : Bool) : Prop :=
 (ok = false → t = [] ∧ x = 0 ∧ ∀ (a : Nat) (t' : List ByteArray) r, at_ = (a : Int) → b.drop a = textsB t' ++ r → t'.length ≤ 200 → (∀ s ∈ t', s.size ≤ 1000000000) → False) ∧
 (ok = true → ∃ a : Nat, at_ = (a : Int) ∧ t.length ≤ 200 ∧ (∀ s ∈ t, s.size ≤ 1000000000) ∧ b.drop a = textsB t ++ b.drop (a + (textsB t).length) ∧ x = ((a + (textsB t).length : Nat) : Int) ∧ a + (textsB t).length ≤ b.length)
theorem texts_loop (b : List Int) (hb : InB b) (hl : b.length ≤ 1099511627776) (N : Nat) (hN : N ≤ 200) : ∀ (d i : Nat), i + d = N → ∀ (c : Nat) (acc : List ByteArray), c ≤ b.length → acc.length = i →
  ∃ t x ok, Ev (fun q => spec_GetTexts.l0 q b (N : Int) (c : Int) acc (i : Int)) (t, x, ok) ∧ Ev (fun q => impl_GetTexts.l0 q b (c : Int) acc (N : Int) (i : Int)) (t, x, ok) ∧
   (ok = false → t = [] ∧ x = 0 ∧ ∀ (t' : List ByteArray) r, t'.length = d → b.drop c = manyB t' ++ r → (∀ s ∈ t', s.size ≤ 1000000000) → False) ∧
   (ok = true → ∃ t' : List ByteArray, t = acc ++ t' ∧ t'.length = d ∧ (∀ s ∈ t', s.size ≤ 1000000000) ∧ b.drop c = manyB t' ++ b.drop (c + (manyB t').length) ∧ x = ((c + (manyB t').length : Nat) : Int) ∧ c + (manyB t').length ≤ b.length) := by
 intro d
 induction d with
 | zero =>
  intro i hi c acc hc ha
  refine ⟨acc, (c : Int), true, ?_, ?_, fun h => (by cases h), fun _ => ⟨[], by simp, rfl, by simp, by simp [manyB_nil], by simp [manyB_nil], by simp [manyB_nil]; omega⟩⟩
  ·refine Ev.step (fun q => by simp only [spec_GetTexts.l0]; rfl) ?_
   exact Ev.neg (by omega) (Ev.now _)
  ·refine Ev.step (fun q => by simp only [impl_GetTexts.l0]; rfl) ?_
   exact Ev.neg (by omega) (Ev.now _)
 | succ d ih =>
  intro i hi c acc hc ha
  obtain ⟨s, x, ok, e1, e2, hT⟩ := getText_both b hb hl (c : Int) (by omega) (by omega)
  have hlt : (i : Int) < (N : Int) := by omega
  have nx : wrap64 ((i : Int) + 1) = ((i + 1 : Nat) : Int) := by
   rw [w64 (by omega) (by omega)]
   omega
  cases ok with
  | false =>
   obtain ⟨rfl, rfl, h3⟩ := hT.1 rfl
   refine ⟨[], 0, false, ?_, ?_, fun _ => ⟨rfl, rfl, fun t' r ht hr hs => ?_⟩, fun h => by cases h⟩
   ·refine Ev.step (fun q => by simp only [spec_GetTexts.l0]; rfl) ?_
    exact Ev.pos hlt (Ev.bind e1 (Ev.neg (by simp) (Ev.now _)))
   ·refine Ev.step (fun q => by simp only [impl_GetTexts.l0]; rfl) ?_
    exact Ev.pos hlt (Ev.bind e2 (Ev.neg (by simp) (Ev.now _)))
   ·cases t' with
    | nil => cases ht
    | cons y t' =>
     rw [manyB_cons, List.append_assoc] at hr
     exact h3 c y _ rfl hr (hs y (List.mem_cons_self ..))
  | true =>
   obtain ⟨c', hcc, hs1, hd, rfl, hle⟩ := hT.2 rfl
   obtain rfl : c = c' := by omega
   obtain ⟨t, x2, ok2, f1, f2, f3, f4⟩ := ih (i + 1) (by omega) (c + (textB s).length) (acc ++ [s]) hle (by simp; omega)
   have hal : acc.length < 8796093022208 := by omega
   refine ⟨t, x2, ok2, ?_, ?_, fun ho => ?_, fun ho => ?_⟩
   ·refine Ev.step (fun q => by simp only [spec_GetTexts.l0, nx]; rfl) ?_
    exact Ev.pos hlt (Ev.bind e1 (Ev.pos rfl (Ev.pos hal f1)))
   ·refine Ev.step (fun q => by simp only [impl_GetTexts.l0, nx]; rfl) ?_
    exact Ev.pos hlt (Ev.bind e2 (Ev.pos rfl (Ev.pos hal f2)))
   ·obtain ⟨g1, g2, g3⟩ := f3 ho
    refine ⟨g1, g2, fun t' r ht hr hs => ?_⟩
    cases t' with
    | nil => cases ht
    | cons y t' =>
     rw [hd, manyB_cons, List.append_assoc] at hr
     obtain ⟨_, k2⟩ := textB_inj hr
     exact g3 t' r (by simpa using ht) k2 (fun s' hs' => hs s' (List.mem_cons_of_mem _ hs'))
   ·obtain ⟨t', g1, g2, g3, g4, g5, g6⟩ := f4 ho
    refine ⟨s :: t', by rw [g1]; simp, by simp [g2], fun s' hs' => ?_, ?_, ?_, ?_⟩
    ·rcases List.mem_cons.1 hs' with rfl | hs'
     ·exact hs1
     ·exact g3 s' hs'
    ·rw [manyB_cons, List.length_append, List.append_assoc, ← Nat.add_assoc]
     rw [hd]
     congr 1
    ·rw [manyB_cons, List.length_append, g5]
     congr 1
     omega
    ·rw [manyB_cons, List.length_append]
     omega
theorem getTexts_both (b : List Int) (hb : InB b) (hl : b.length ≤ 1099511627776) (at_ : Int) (h0 : -9223372036854775808 ≤ at_) (h1 : at_ ≤ 9223372036854775807) : ∃ t x ok, Ev (fun q => spec_GetTexts.f q b at_) (t, x, ok) ∧ Ev (fun q => impl_GetTexts.f q b at_) (t, x, ok) ∧ TextsOf b at_ t x ok := by
 obtain ⟨m, x, ok, e1, e2, hN⟩ := getNum_both b hb hl at_ h0 h1
 have sEnd : ∀ m x : Int, Ev (fun q => spec_GetTexts.j0 q b m x true) (([] : List ByteArray), (0 : Int), false) := fun m x => by
  refine Ev.step (fun q => by simp only [spec_GetTexts.j0]; rfl) ?_
  exact Ev.pos trivial (Ev.now _)
 have iEnd : ∀ m x : Int, Ev (fun q => impl_GetTexts.j0 q b m x true) (([] : List ByteArray), (0 : Int), false) := fun m x => by
  refine Ev.step (fun q => by simp only [impl_GetTexts.j0]; rfl) ?_
  exact Ev.pos trivial (Ev.now _)
 unfold spec_GetTexts.f impl_GetTexts.f
 cases ok with
 | false =>
  obtain ⟨rfl, rfl, h3⟩ := hN.1 rfl
  refine ⟨[], 0, false, Ev.bind e1 (Ev.neg (by simp) (sEnd _ _)), Ev.bind e2 (Ev.neg (by simp) (iEnd _ _)), fun _ => ⟨rfl, rfl, fun a t' r ha hr ht hs => ?_⟩, fun h => by cases h⟩
  unfold textsB at hr
  rw [List.append_assoc] at hr
  exact h3 a t'.length _ ha hr (by omega)
 | true =>
  obtain ⟨a, N, rfl, rfl, hN1, hd, rfl, hle⟩ := hN.2 rfl
  by_cases hg : (N : Int) > 200
  ·refine ⟨[], 0, false, ?_, ?_, fun _ => ⟨rfl, rfl, fun a' t' r ha hr ht hs => ?_⟩, fun h => by cases h⟩
   ·refine Ev.bind e1 (Ev.pos rfl ?_)
    simp only [decide_eq_true hg]
    exact sEnd _ _
   ·refine Ev.bind e2 (Ev.pos rfl ?_)
    simp only [decide_eq_true hg]
    exact iEnd _ _
   ·obtain rfl : a = a' := by omega
    unfold textsB at hr
    rw [hd, List.append_assoc] at hr
    obtain ⟨k1, k2⟩ := num_inj _ _ _ _ hr
    omega
  ·obtain ⟨t, x2, ok2, f1, f2, f3, f4⟩ := texts_loop b hb hl N (by omega) N 0 (by omega) (a + (num N).length) [] hle rfl
   refine ⟨t, x2, ok2, ?_, ?_, fun ho => ?_, fun ho => ?_⟩
   ·refine Ev.bind e1 (Ev.pos rfl ?_)
    simp only [decide_eq_false hg]
    refine Ev.step (fun q => by simp only [spec_GetTexts.j0]; rfl) ?_
    exact Ev.neg (by simp) f1
   ·refine Ev.bind e2 (Ev.pos rfl ?_)
    simp only [decide_eq_false hg]
    refine Ev.step (fun q => by simp only [impl_GetTexts.j0]; rfl) ?_
    exact Ev.neg (by simp) f2
   ·obtain ⟨g1, g2, g3⟩ := f3 ho
    refine ⟨g1, g2, fun a' t' r ha hr ht hs => ?_⟩
    obtain rfl : a = a' := by omega
    unfold textsB at hr
    rw [hd, List.append_assoc] at hr
    obtain ⟨k1, k2⟩ := num_inj _ _ _ _ hr
    exact g3 t' r k1.symm k2 hs
   ·obtain ⟨t', g1, g2, g3, g4, g5, g6⟩ := f4 ho
    rw [List.nil_append] at g1
    subst g1
    have hb2 : textsB t = num N ++ manyB t := by
     unfold textsB
     rw [g2]
    refine ⟨a, rfl, by omega, g3, ?_, ?_, ?_⟩
    ·rw [hb2, List.length_append, List.append_assoc, ← Nat.add_assoc]
     rw [hd]
     congr 1
    ·rw [hb2, List.length_append, g5]
     congr 1
     omega
    ·rw [hb2, List.length_append]
     omega
def headOk (n : Int) (s : ByteArray) : Bool := if 0 ≤ n ∧ n ≤ 200 then ((s.size : Int) == 32) else false
theorem spec_HeadOk_eq (n : Int) (s : ByteArray) : spec_HeadOk.f n s = some (headOk n s) := by
 unfold spec_HeadOk.f headOk
 rw [spec_in_eq]
 simp only [Option.bind_some]
 by_cases h : 0 ≤ n ∧ n ≤ 200
 ·rw [decide_eq_true h, if_pos h]
  rfl
 ·rw [decide_eq_false h, if_neg h]
  rfl
theorem impl_HeadOk_eq (n : Int) (s : ByteArray) : impl_HeadOk.f n s = some (headOk n s) := by
 unfold impl_HeadOk.f headOk
 rw [impl_in_eq]
 simp only [Option.bind_some]
 by_cases h : 0 ≤ n ∧ n ≤ 200
 ·rw [decide_eq_true h, if_pos h]
  rfl
 ·rw [decide_eq_false h, if_neg h]
  rfl
theorem headOk_parts {n : Int} {s : ByteArray} (h : headOk n s = true) : 0 ≤ n ∧ n ≤ 200 ∧ s.size = 32 := by
 unfold headOk at h
 by_cases hn : 0 ≤ n ∧ n ≤ 200
 ·rw [if_pos hn] at h
  have := beq_iff_eq.1 h
  omega
 ·rw [if_neg hn] at h
  cases h
theorem nums_eq {l m : List Int} (hl : InB l) (hm : InB m) : ((strOfNums l).toList == (strOfNums m).toList) = decide (l = m) := by
 by_cases h : l = m
 ·rw [decide_eq_true h, h]
  simp
 ·rw [decide_eq_false h, beq_eq_false_iff_ne]
  intro e
  apply h
  have e2 : strOfNums l = strOfNums m := bytes_ext e
  rw [← bytes_nums l hl, ← bytes_nums m hm, e2]
theorem gtext_bad (b : List Int) (hb : InB b) (hl : b.length ≤ 1099511627776) (at_ : Int) (h0 : -9223372036854775808 ≤ at_) (h1 : at_ ≤ 9223372036854775807) : Ev (fun q => impl_getter_text.f q b at_ true) ((⟨#[]⟩ : ByteArray), at_, true) := by
 obtain ⟨m, x, ok, e1, e2, hN⟩ := getText_both b hb hl at_ h0 h1
 unfold impl_getter_text.f
 exact Ev.bind e2 (Ev.pos rfl (Ev.now _))
theorem gtexts_bad (b : List Int) (hb : InB b) (hl : b.length ≤ 1099511627776) (at_ : Int) (h0 : -9223372036854775808 ≤ at_) (h1 : at_ ≤ 9223372036854775807) : Ev (fun q => impl_getter_texts.f q b at_ true) (([] : List ByteArray), at_, true) := by
 obtain ⟨m, x, ok, e1, e2, hN⟩ := getTexts_both b hb hl at_ h0 h1
 unfold impl_getter_texts.f
 exact Ev.bind e2 (Ev.pos rfl (Ev.now _))
theorem gnum_go {b : List Int} {at_ m x : Int} {ok : Bool} (h : Ev (fun q => impl_GetNum.f q b at_) (m, x, ok)) : Ev (fun q => impl_getter_num.f q b at_ false) (if ok = true then (m, x, false) else (0, at_, true)) := by
 unfold impl_getter_num.f
 refine Ev.bind h (Ev.neg (by simp) ?_)
 cases ok with
 | true => exact Ev.pos rfl (Ev.now _)
 | false => exact Ev.neg (by simp) (Ev.now _)
theorem gtext_go {b : List Int} {at_ x : Int} {s : ByteArray} {ok : Bool} (h : Ev (fun q => impl_GetText.f q b at_) (s, x, ok)) : Ev (fun q => impl_getter_text.f q b at_ false) (if ok = true then (s, x, false) else ((⟨#[]⟩ : ByteArray), at_, true)) := by
 unfold impl_getter_text.f
 refine Ev.bind h (Ev.neg (by simp) ?_)
 cases ok with
 | true => exact Ev.pos rfl (Ev.now _)
 | false => exact Ev.neg (by simp) (Ev.now _)
theorem gtexts_go {b : List Int} {at_ x : Int} {t : List ByteArray} {ok : Bool} (h : Ev (fun q => impl_GetTexts.f q b at_) (t, x, ok)) : Ev (fun q => impl_getter_texts.f q b at_ false) (if ok = true then (t, x, false) else (([] : List ByteArray), at_, true)) := by
 unfold impl_getter_texts.f
 refine Ev.bind h (Ev.neg (by simp) ?_)
 cases ok with
 | true => exact Ev.pos rfl (Ev.now _)
 | false => exact Ev.neg (by simp) (Ev.now _)
theorem manyB_inB (t : List ByteArray) : InB (manyB t) := by
 induction t with
 | nil => exact inB_nil
 | cons s t ih =>
  rw [manyB_cons]
  exact inB_app (textB_inB s) ih
theorem textsB_inB (t : List ByteArray) : InB (textsB t) := inB_app (num_inB _) (manyB_inB t)
theorem manyB_ge (t : List ByteArray) : total t + t.length ≤ ((manyB t).length : Int) := by
 induction t with
 | nil => simp [manyB_nil, total]
 | cons s t ih =>
  have := num_pos s.size
  rw [manyB_cons, List.length_append, textB_length, total_cons, List.length_cons]
  omega
theorem num_step (b : List Int) (hb : InB b) (hl : b.length ≤ 1099511627776) (a : Nat) (ha : a ≤ b.length) :
  (Ev (fun q => spec_GetNum.f q b (a : Int)) (0, 0, false) ∧ Ev (fun q => impl_getter_num.f q b (a : Int) false) (0, (a : Int), true) ∧ ∀ (n : Nat) r, b.drop a = num n ++ r → n ≤ 1000000000 → False) ∨
  (∃ n p : Nat, n ≤ 1000000000 ∧ p ≤ b.length ∧ b.drop a = num n ++ b.drop p ∧ p = a + (num n).length ∧ Ev (fun q => spec_GetNum.f q b (a : Int)) ((n : Int), (p : Int), true) ∧ Ev (fun q => impl_getter_num.f q b (a : Int) false) ((n : Int), (p : Int), false)) := by
 obtain ⟨m, x, ok, e1, e2, hN⟩ := getNum_both b hb hl (a : Int) (by omega) (by omega)
 have g := gnum_go e2
 cases ok with
 | false =>
  rw [if_neg (by simp)] at g
  obtain ⟨rfl, rfl, h3⟩ := hN.1 rfl
  exact .inl ⟨e1, g, fun n r h1 h2 => h3 a n r rfl h1 h2⟩
 | true =>
  rw [if_pos rfl] at g
  obtain ⟨a', n, ha', rfl, h1, h2, rfl, h4⟩ := hN.2 rfl
  obtain rfl : a = a' := by omega
  exact .inr ⟨n, _, h1, h4, h2, rfl, e1, g⟩
theorem text_step (b : List Int) (hb : InB b) (hl : b.length ≤ 1099511627776) (a : Nat) (ha : a ≤ b.length) :
  (Ev (fun q => spec_GetText.f q b (a : Int)) ((⟨#[]⟩ : ByteArray), 0, false) ∧ Ev (fun q => impl_getter_text.f q b (a : Int) false) ((⟨#[]⟩ : ByteArray), (a : Int), true) ∧ ∀ (s : ByteArray) r, b.drop a = textB s ++ r → s.size ≤ 1000000000 → False) ∨
  (∃ (s : ByteArray) (p : Nat), s.size ≤ 1000000000 ∧ p ≤ b.length ∧ b.drop a = textB s ++ b.drop p ∧ p = a + (textB s).length ∧ Ev (fun q => spec_GetText.f q b (a : Int)) (s, (p : Int), true) ∧ Ev (fun q => impl_getter_text.f q b (a : Int) false) (s, (p : Int), false)) := by
 obtain ⟨m, x, ok, e1, e2, hN⟩ := getText_both b hb hl (a : Int) (by omega) (by omega)
 have g := gtext_go e2
 cases ok with
 | false =>
  rw [if_neg (by simp)] at g
  obtain ⟨rfl, rfl, h3⟩ := hN.1 rfl
  exact .inl ⟨e1, g, fun n r h1 h2 => h3 a n r rfl h1 h2⟩
 | true =>
  rw [if_pos rfl] at g
  obtain ⟨a', ha', h1, h2, rfl, h4⟩ := hN.2 rfl
  obtain rfl : a = a' := by omega
  exact .inr ⟨m, _, h1, h4, h2, rfl, e1, g⟩
theorem texts_step (b : List Int) (hb : InB b) (hl : b.length ≤ 1099511627776) (a : Nat) (ha : a ≤ b.length) :
  (Ev (fun q => spec_GetTexts.f q b (a : Int)) (([] : List ByteArray), 0, false) ∧ Ev (fun q => impl_getter_texts.f q b (a : Int) false) (([] : List ByteArray), (a : Int), true) ∧ ∀ (t : List ByteArray) r, b.drop a = textsB t ++ r → t.length ≤ 200 → (∀ s ∈ t, s.size ≤ 1000000000) → False) ∨
  (∃ (t : List ByteArray) (p : Nat), t.length ≤ 200 ∧ (∀ s ∈ t, s.size ≤ 1000000000) ∧ p ≤ b.length ∧ b.drop a = textsB t ++ b.drop p ∧ p = a + (textsB t).length ∧ Ev (fun q => spec_GetTexts.f q b (a : Int)) (t, (p : Int), true) ∧ Ev (fun q => impl_getter_texts.f q b (a : Int) false) (t, (p : Int), false)) := by
 obtain ⟨m, x, ok, e1, e2, hN⟩ := getTexts_both b hb hl (a : Int) (by omega) (by omega)
 have g := gtexts_go e2
 cases ok with
 | false =>
  rw [if_neg (by simp)] at g
  obtain ⟨rfl, rfl, h3⟩ := hN.1 rfl
  exact .inl ⟨e1, g, fun n r h1 h2 h5 => h3 a n r rfl h1 h2 h5⟩
 | true =>
  rw [if_pos rfl] at g
  obtain ⟨a', ha', h1, h5, h2, rfl, h4⟩ := hN.2 rfl
  obtain rfl : a = a' := by omega
  exact .inr ⟨m, _, h1, h5, h4, h2, rfl, e1, g⟩
theorem text_any (b : List Int) (hb : InB b) (hl : b.length ≤ 1099511627776) (x : Int) (h : 0 ≤ x ∧ x ≤ b.length) : ∃ m y ok, Ev (fun q => spec_GetText.f q b x) (m, y, ok) ∧ 0 ≤ y ∧ y ≤ b.length := by
 obtain ⟨a, rfl⟩ := Int.eq_ofNat_of_zero_le h.1
 rcases text_step b hb hl a (by omega) with ⟨e, _⟩ | ⟨n, p, _, h2, _, _, e, _⟩
 ·exact ⟨_, _, _, e, by omega, by omega⟩
 ·exact ⟨_, _, _, e, by omega, by omega⟩
theorem texts_any (b : List Int) (hb : InB b) (hl : b.length ≤ 1099511627776) (x : Int) (h : 0 ≤ x ∧ x ≤ b.length) : ∃ m y ok, Ev (fun q => spec_GetTexts.f q b x) (m, y, ok) ∧ 0 ≤ y ∧ y ≤ b.length := by
 obtain ⟨a, rfl⟩ := Int.eq_ofNat_of_zero_le h.1
 rcases texts_step b hb hl a (by omega) with ⟨e, _⟩ | ⟨n, p, _, _, h2, _, _, e, _⟩
 ·exact ⟨_, _, _, e, by omega, by omega⟩
 ·exact ⟨_, _, _, e, by omega, by omega⟩
def bodyB (n : Nat) (s : ByteArray) (t : List ByteArray) : List Int := num n ++ (textB s ++ textsB t)
def sumB (l : List Int) : List Int := bytesOf ((sha l).extract 0 4)
def commitB (n : Nat) (s : ByteArray) (t : List ByteArray) : List Int := num (bodyB n s t).length ++ (bodyB n s t ++ sumB (bodyB n s t))
theorem sumB_length (l : List Int) : (sumB l).length = 4 := by
 unfold sumB
 rw [bytesOf_length, ByteArray.size_extract, sha_size]
 rfl
theorem bodyB_inB (n : Nat) (s : ByteArray) (t : List ByteArray) : InB (bodyB n s t) := inB_app (num_inB _) (inB_app (textB_inB _) (textsB_inB _))
theorem sumB_inB (l : List Int) : InB (sumB l) := inB_text _
theorem commitB_inB (n : Nat) (s : ByteArray) (t : List ByteArray) : InB (commitB n s t) := inB_app (num_inB _) (inB_app (bodyB_inB _ _ _) (sumB_inB _))
theorem bodyB_ge (n : Nat) (s : ByteArray) (t : List ByteArray) : total t + t.length + s.size ≤ ((bodyB n s t).length : Int) := by
 have h := manyB_ge t
 unfold bodyB textsB
 rw [List.length_append, List.length_append, List.length_append, textB_length]
 omega
theorem bodyB_inj {n m : Nat} {s u : ByteArray} {t v : List ByteArray} {r q : List Int} (h : bodyB n s t ++ r = bodyB m u v ++ q) : n = m ∧ s = u ∧ t = v ∧ r = q := by
 unfold bodyB at h
 simp only [List.append_assoc] at h
 obtain ⟨h1, h⟩ := num_inj _ _ _ _ h
 obtain ⟨h2, h⟩ := textB_inj h
 obtain ⟨h3, h⟩ := textsB_inj h
 exact ⟨h1, h2, h3, h⟩
theorem commitB_inj {n m : Nat} {s u : ByteArray} {t v : List ByteArray} {r q : List Int} (h : commitB n s t ++ r = commitB m u v ++ q) : n = m ∧ s = u ∧ t = v ∧ r = q := by
 unfold commitB at h
 simp only [List.append_assoc] at h
 obtain ⟨h1, h⟩ := num_inj _ _ _ _ h
 obtain ⟨h2, h3⟩ := List.append_inj h h1
 obtain ⟨a, b, c, _⟩ := bodyB_inj (show bodyB n s t ++ [] = bodyB m u v ++ [] by rw [h2])
 subst a b c
 obtain ⟨_, h4⟩ := List.append_inj h3 rfl
 exact ⟨rfl, rfl, rfl, h4⟩
theorem putCommit_val (n : Nat) (s : ByteArray) (t : List ByteArray) (hn : n ≤ 200) (hs : s.size ≤ 1000) (ht : t.length ≤ 1000000) (htt : total t ≤ 100000000) (hx : ∀ x ∈ t, x.size ≤ 1000000000) : Ev (fun q => impl_putCommit.f q (n : Int) s t) (commitB n s t) := by
 have ht0 := total_nonneg t
 have a2 := (putNum_val [] n (by omega) (by simp)).2
 have h5 := num_five (show n ≤ 1000000000 by omega)
 have hs5 := num_five (show s.size ≤ 1000000000 by omega)
 have b2 := (putText_val ([] ++ num n) s (by omega) (by simp; omega)).2
 have c2 := (putTexts_val ([] ++ num n ++ textB s) t (by rw [List.length_append, textB_length]; simp; omega) (by omega) hx).2
 have eb : [] ++ num n ++ textB s ++ textsB t = bodyB n s t := by
  unfold bodyB
  simp
 rw [eb] at c2
 have hm := manyB_length t hx
 have ht5 := num_five (show t.length ≤ 1000000000 by omega)
 have hbl : (bodyB n s t).length ≤ 1000000000 := by
  unfold bodyB textsB
  rw [List.length_append, List.length_append, List.length_append, textB_length]
  omega
 have h4 : ((sha (bodyB n s t)).extract 0 4).size = 4 := by
  rw [ByteArray.size_extract, sha_size]
  rfl
 have h32 : (sha (bodyB n s t)).size = 32 := sha_size _
 have d2 := (putNum_val [] (bodyB n s t).length hbl (by simp)).2
 have hd5 := num_five hbl
 rw [List.nil_append] at d2
 unfold impl_putCommit.f commitB sumB
 refine Ev.bind a2 (Ev.bind b2 (Ev.bind c2 (Ev.bind d2 (Ev.pos (by omega) (Ev.bind (Ev.now _) (Ev.bind (Ev.const (impl_Digest_is (bodyB n s t) (by omega))) ?_))))))
 rw [← List.append_assoc]
 exact Ev.pos (by omega) (Ev.pos (by omega) (Ev.pos (by rw [List.length_append, h4]; omega) (Ev.now _)))
theorem PutCommit_val (n : Int) (s : ByteArray) (t : List ByteArray) (htt : total t ≤ 100000000) (ht : t.length ≤ 1000000) (hx : ∀ x ∈ t, x.size ≤ 1000000000) : Ev (fun q => impl_PutCommit.f q n s t) (if headOk n s = true ∧ 1 ≤ t.length ∧ t.length ≤ 200 then commitB n.toNat s t else []) := by
 unfold impl_PutCommit.f
 by_cases h : headOk n s = true
 ·obtain ⟨h1, h2, h3⟩ := headOk_parts h
  refine Ev.bind (Ev.const (impl_HeadOk_eq n s)) (Ev.pos h ?_)
  by_cases hl : 1 ≤ (t.length : Int) ∧ (t.length : Int) ≤ 200
  ·rw [if_pos ⟨h, by omega, by omega⟩]
   have hv := putCommit_val n.toNat s t (by omega) (by omega) ht htt hx
   rw [show ((n.toNat : Nat) : Int) = n by omega] at hv
   exact Ev.bind (Ev.const (impl_in_eq _ _ _)) (Ev.pos (decide_eq_true hl) (Ev.bind hv (Ev.now _)))
  ·rw [if_neg (fun q => hl ⟨by omega, by omega⟩)]
   exact Ev.bind (Ev.const (impl_in_eq _ _ _)) (Ev.neg (by rw [decide_eq_false hl]; simp) (Ev.now _))
 ·rw [if_neg (fun q => h q.1)]
  exact Ev.bind (Ev.const (impl_HeadOk_eq n s)) (Ev.neg h (Ev.now _))
theorem commitB_length (n : Nat) (s : ByteArray) (t : List ByteArray) : (commitB n s t).length = (num (bodyB n s t).length).length + (bodyB n s t).length + 4 := by
 unfold commitB
 rw [List.length_append, List.length_append, sumB_length]
 omega
def CommitOf (b : List Int) (at_ n : Int) (s : ByteArray) (t : List ByteArray) (nx : Int) (ok : Bool) : Prop :=
 (ok = true → ∃ a N : Nat, at_ = (a : Int) ∧ n = (N : Int) ∧ headOk n s = true ∧ 1 ≤ t.length ∧ b.drop a = commitB N s t ++ b.drop (a + (commitB N s t).length) ∧ nx = ((a + (commitB N s t).length : Nat) : Int) ∧ a + (commitB N s t).length ≤ b.length) ∧
 (ok = false → n = 0 ∧ s = ⟨#[]⟩ ∧ t = [] ∧ nx = at_ ∧ ∀ (a N : Nat) (s' : ByteArray) (t' : List ByteArray) r, at_ = (a : Int) → b.drop a = commitB N s' t' ++ r → headOk (N : Int) s' = true → 1 ≤ t'.length → t'.length ≤ 200 → (∀ x ∈ t', x.size ≤ 1000000000) → False)
set_option maxHeartbeats 1000000 in
theorem getCommitI (b : List Int) (hb : InB b) (hl : b.length ≤ 10000000) (at_ : Int) (h0 : -9223372036854775808 ≤ at_) (h1 : at_ ≤ 9223372036854775807) :
  ∃ n s t nx ok, Ev (fun q => impl_GetCommit.f q b at_) (n, s, t, nx, ok) ∧ t.length ≤ 200 ∧ CommitOf b at_ n s t nx ok := by
 obtain ⟨m, x, ok, _, e2, hN⟩ := getNum_both b hb (by omega) at_ h0 h1
 have jT : ∀ m x : Int, Ev (fun q => impl_GetCommit.j0 q b at_ m x true) (0, (⟨#[]⟩ : ByteArray), ([] : List ByteArray), at_, false) := fun m x => by
  refine Ev.step (fun q => by simp only [impl_GetCommit.j0]; rfl) ?_
  exact Ev.pos trivial (Ev.now _)
 have bad : ∀ P : Prop, (∀ (a N : Nat) (s' : ByteArray) (t' : List ByteArray) r, at_ = (a : Int) → b.drop a = commitB N s' t' ++ r → headOk (N : Int) s' = true → 1 ≤ t'.length → t'.length ≤ 200 → (∀ x ∈ t', x.size ≤ 1000000000) → False) → CommitOf b at_ 0 ⟨#[]⟩ [] at_ false := fun _ h => ⟨fun q => (by cases q), fun _ => ⟨rfl, rfl, rfl, rfl, h⟩⟩
 unfold impl_GetCommit.f
 cases ok with
 | false =>
  obtain ⟨rfl, rfl, h3⟩ := hN.1 rfl
  refine ⟨0, ⟨#[]⟩, [], at_, false, Ev.bind e2 (Ev.neg (by simp) (jT _ _)), by simp, bad True fun a N s' t' r ha hr _ _ _ _ => ?_⟩
  unfold commitB at hr
  rw [List.append_assoc] at hr
  refine h3 a _ _ ha hr ?_
  have := congrArg List.length hr
  simp only [List.length_append, List.length_drop] at this
  omega
 | true =>
  obtain ⟨a, m, rfl, rfl, hm, hd, rfl, hle⟩ := hN.2 rfl
  have hp1 := num_pos m
  obtain ⟨p, hp⟩ : ∃ p, a + (num m).length = p := ⟨_, rfl⟩
  rw [hp] at e2 hd hle
  clear hN
  have cut : ∀ (N : Nat) (s' : ByteArray) (t' : List ByteArray) r, b.drop a = commitB N s' t' ++ r → m = (bodyB N s' t').length ∧ b.drop p = bodyB N s' t' ++ (sumB (bodyB N s' t') ++ r) := fun N s' t' r hr => by
   unfold commitB at hr
   rw [hd, List.append_assoc, List.append_assoc] at hr
   exact num_inj _ _ _ _ hr
  have w1 : wrap64 ((b.length : Int) - (p : Int)) = (b.length : Int) - (p : Int) := w64 (by omega) (by omega)
  have w2 : wrap64 ((b.length : Int) - (p : Int) - 4) = (b.length : Int) - (p : Int) - 4 := w64 (by omega) (by omega)
  by_cases hg : (m : Int) > (b.length : Int) - (p : Int) - 4
  ·refine ⟨0, ⟨#[]⟩, [], (a : Int), false, ?_, by simp, bad True fun a' N s' t' r ha hr _ _ _ _ => ?_⟩
   ·refine Ev.bind e2 (Ev.pos rfl ?_)
    simp only [w1, w2, decide_eq_true hg]
    exact jT _ _
   ·obtain rfl : a = a' := by omega
    obtain ⟨k1, k2⟩ := cut N s' t' r hr
    have := congrArg List.length k2
    simp only [List.length_append, List.length_drop, sumB_length] at this
    omega
  ·have w3 : wrap64 ((p : Int) + (m : Int)) = ((p + m : Nat) : Int) := by
    rw [w64 (by omega) (by omega)]
    omega
   have w4 : wrap64 (((p + m : Nat) : Int) + 4) = ((p + m + 4 : Nat) : Int) := by
    rw [w64 (by omega) (by omega)]
    omega
   have t1 : ((p + m : Nat) : Int).toNat = p + m := Int.toNat_natCast _
   have t2 : (p : Int).toNat = p := Int.toNat_natCast _
   have t3 : ((p + m + 4 : Nat) : Int).toNat = p + m + 4 := Int.toNat_natCast _
   have t4 : (a : Int).toNat = a := Int.toNat_natCast _
   obtain ⟨B, hB⟩ : ∃ B, (b.take (p + m)).drop p = B := ⟨_, rfl⟩
   have hB2 : B = (b.drop p).take m := by
    rw [← hB, List.drop_take]
    congr 1
    omega
   have hBl : B.length = m := by
    rw [hB2, List.length_take, List.length_drop]
    omega
   have hBb : InB B := by
    rw [hB2]
    exact inB_take (inB_drop hb p) m
   have cutB : ∀ (N : Nat) (s' : ByteArray) (t' : List ByteArray) r, b.drop a = commitB N s' t' ++ r → B = bodyB N s' t' := fun N s' t' r hr => by
    obtain ⟨k1, k2⟩ := cut N s' t' r hr
    rw [hB2, k2, k1, List.take_left]
   obtain ⟨E, hE⟩ : ∃ E, (b.take (p + m + 4)).drop a = E := ⟨_, rfl⟩
   have start : ∀ r, Ev (fun q => (impl_getter_num.f q B 0 false).bind fun bt7 => ((impl_getter_text.f q B bt7.2.1 bt7.2.2).bind fun bt11 => ((impl_getter_texts.f q B bt11.2.1 bt11.2.2).bind fun bt14 => (if bt14.2.2 = true then (some (0, (⟨#[]⟩ : ByteArray), ([] : List ByteArray), (a : Int), false)) else ((impl_PutCommit.f q bt7.1 bt11.1 bt14.1).bind fun t19 => ((bytes_Equal.f t19 E).bind fun t23 => (if t23 = true then (some (bt7.1, bt11.1, bt14.1, ((p + m + 4 : Nat) : Int), true)) else (some (0, (⟨#[]⟩ : ByteArray), ([] : List ByteArray), (a : Int), false))))))))) r → Ev (fun q => (impl_GetNum.f q b (a : Int)).bind fun bt2 => (if bt2.2.2 = true then (impl_GetCommit.j0 q b (a : Int) bt2.1 bt2.2.1 (decide (bt2.1 > (wrap64 ((wrap64 ((b.length : Int) - bt2.2.1)) - 4))))) else (impl_GetCommit.j0 q b (a : Int) bt2.1 bt2.2.1 true))) r := fun r hr => by
    refine Ev.bind e2 (Ev.pos rfl ?_)
    simp only [w1, w2, decide_eq_false hg]
    refine Ev.step (fun q => by simp only [impl_GetCommit.j0, w3, w4, t1, t2, t3, t4, hB, hE]; rfl) ?_
    refine Ev.neg (by simp) (Ev.pos (by omega) (Ev.pos (by omega) (Ev.pos (by omega) ?_)))
    have i1 : (0 : Int) ≤ (a : Int) := by omega
    have i2 : (a : Int) ≤ ((p + m + 4 : Nat) : Int) := by omega
    have i3 : ((p + m + 4 : Nat) : Int) ≤ (b.length : Int) := by omega
    simp only [if_pos i1, if_pos i2, if_pos i3]
    exact hr
   rcases num_step B hBb (by omega) 0 (by omega) with ⟨_, g0, z0⟩ | ⟨v0, p1, q0, l0, y0, r0, _, g0⟩
   ·refine ⟨0, ⟨#[]⟩, [], (a : Int), false, start _ (Ev.bind g0 (Ev.bind (gtext_bad B hBb (by omega) 0 (by omega) (by omega)) (Ev.bind (gtexts_bad B hBb (by omega) 0 (by omega) (by omega)) (Ev.pos rfl (Ev.now _))))), by simp, bad True fun a' N s' t' r ha hr hk c1 c2 c3 => ?_⟩
    obtain rfl : a = a' := by omega
    have hh := headOk_parts hk
    exact z0 N _ (show B.drop 0 = num N ++ (textB s' ++ textsB t') from cutB N s' t' r hr) (by omega)
   ·rcases text_step B hBb (by omega) p1 (by omega) with ⟨_, g1, z1⟩ | ⟨v1, p2, q1, l1, y1, r1, _, g1⟩
    ·refine ⟨0, ⟨#[]⟩, [], (a : Int), false, start _ (Ev.bind g0 (Ev.bind g1 (Ev.bind (gtexts_bad B hBb (by omega) (p1 : Int) (by omega) (by omega)) (Ev.pos rfl (Ev.now _))))), by simp, bad True fun a' N s' t' r ha hr hk c1 c2 c3 => ?_⟩
     obtain rfl : a = a' := by omega
     have hh := headOk_parts hk
     have d0 : B.drop 0 = num N ++ (textB s' ++ textsB t') := cutB N s' t' r hr
     have d1 := (num_inj _ _ _ _ (y0.symm.trans d0)).2
     exact z1 s' _ d1 (by omega)
    ·rcases texts_step B hBb (by omega) p2 (by omega) with ⟨_, g2, z2⟩ | ⟨v2, p3, q2, s2, l2, y2, r2, _, g2⟩
     ·refine ⟨0, ⟨#[]⟩, [], (a : Int), false, start _ (Ev.bind g0 (Ev.bind g1 (Ev.bind g2 (Ev.pos rfl (Ev.now _))))), by simp, bad True fun a' N s' t' r ha hr hk c1 c2 c3 => ?_⟩
      obtain rfl : a = a' := by omega
      have d0 : B.drop 0 = num N ++ (textB s' ++ textsB t') := cutB N s' t' r hr
      have d1 := (num_inj _ _ _ _ (y0.symm.trans d0)).2
      have d2 := (textB_inj (y1.symm.trans d1)).2
      exact z2 t' [] (by rw [List.append_nil]; exact d2) c2 c3
     ·have hBB : B = bodyB v0 v1 v2 ++ B.drop p3 := by
       have e : B.drop 0 = num v0 ++ (textB v1 ++ (textsB v2 ++ B.drop p3)) := by rw [y0, y1, y2]
       unfold bodyB
       simp only [List.append_assoc]
       exact e
      have hge := bodyB_ge v0 v1 v2
      have hBBl : (bodyB v0 v1 v2).length ≤ m := by
       have := congrArg List.length hBB
       rw [List.length_append] at this
       omega
      have ht0 := total_nonneg v2
      have hP := PutCommit_val (v0 : Int) v1 v2 (by omega) (by omega) s2
      rw [Int.toNat_natCast] at hP
      have hEb : InB E := by
       rw [← hE]
       exact inB_drop (inB_take hb _) _
      have hEl : E.length = (num m).length + m + 4 := by
       rw [← hE, List.length_drop, List.length_take]
       omega
      have hEd : b.drop a = E ++ b.drop (p + m + 4) := by
       have e3 : b.drop a = (b.drop a).take (p + m + 4 - a) ++ (b.drop a).drop (p + m + 4 - a) := (List.take_append_drop _ _).symm
       rw [List.drop_drop, ← List.drop_take, show a + (p + m + 4 - a) = p + m + 4 by omega, hE] at e3
       exact e3
      obtain ⟨W, hW⟩ : ∃ W, (if headOk (v0 : Int) v1 = true ∧ 1 ≤ v2.length ∧ v2.length ≤ 200 then commitB v0 v1 v2 else []) = W := ⟨_, rfl⟩
      rw [hW] at hP
      have hWb : InB W := by
       rw [← hW]
       split
       ·exact commitB_inB _ _ _
       ·exact inB_nil
      have hQ : bytes_Equal.f W E = some (decide (W = E)) := by
       unfold bytes_Equal.f
       rw [nums_eq hWb hEb]
      by_cases he : W = E
      ·have hc : headOk (v0 : Int) v1 = true ∧ 1 ≤ v2.length ∧ v2.length ≤ 200 := Classical.byContradiction fun hn => by
        rw [if_neg hn] at hW
        rw [← hW] at he
        have := congrArg List.length he
        rw [hEl] at this
        simp only [List.length_nil] at this
        omega
       rw [if_pos hc] at hW
       have hlen : (commitB v0 v1 v2).length = (num m).length + m + 4 := by rw [hW, he, hEl]
       refine ⟨(v0 : Int), v1, v2, ((p + m + 4 : Nat) : Int), true, start _ (Ev.bind g0 (Ev.bind g1 (Ev.bind g2 (Ev.neg (by simp) (Ev.bind hP (Ev.bind (Ev.const hQ) (Ev.pos (decide_eq_true he) (Ev.now _)))))))), q2, fun _ => ⟨a, v0, rfl, rfl, hc.1, hc.2.1, ?_, ?_, ?_⟩, fun h => (by cases h)⟩
       ·rw [hlen, hW, he, show a + ((num m).length + m + 4) = p + m + 4 by omega]
        exact hEd
       ·rw [hlen]
        congr 1
        omega
       ·rw [hlen]
        omega
      ·refine ⟨0, ⟨#[]⟩, [], (a : Int), false, start _ (Ev.bind g0 (Ev.bind g1 (Ev.bind g2 (Ev.neg (by simp) (Ev.bind hP (Ev.bind (Ev.const hQ) (Ev.neg (by rw [decide_eq_false he]; simp) (Ev.now _)))))))), by simp, bad True fun a' N s' t' r ha hr hk c1 c2 c3 => ?_⟩
       obtain rfl : a = a' := by omega
       have hb2 := cutB N s' t' r hr
       obtain ⟨k1, k2⟩ := cut N s' t' r hr
       obtain ⟨rfl, rfl, rfl, _⟩ := bodyB_inj (show bodyB v0 v1 v2 ++ B.drop p3 = bodyB N s' t' ++ [] by rw [List.append_nil, ← hBB, hb2])
       rw [if_pos ⟨hk, c1, c2⟩] at hW
       apply he
       rw [← hW]
       have hcl := commitB_length v0 v1 v2
       rw [← k1] at hcl
       exact (List.append_inj (hr.symm.trans hEd) (by rw [hcl, hEl])).1
theorem nums_bytes (s : ByteArray) : strOfNums (bytesOf s) = s := bytesOf_inj (bytes_nums _ (inB_text s))
theorem sum_iff {G : List Int} (hG : InB G) (B : List Int) : (strOfNums G).toList = ((sha B).extract 0 4).toList ↔ G = sumB B := by
 unfold sumB
 constructor
 ·intro h
  rw [← bytes_nums G hG, bytes_ext h]
 ·intro h
  rw [h, nums_bytes]
set_option maxHeartbeats 1000000 in
theorem getCommitS (b : List Int) (hb : InB b) (hl : b.length ≤ 10000000) (at_ : Int) (h0 : -9223372036854775808 ≤ at_) (h1 : at_ ≤ 9223372036854775807) :
  ∃ n s t nx ok, Ev (fun q => spec_GetCommit.f q b at_) (n, s, t, nx, ok) ∧ t.length ≤ 200 ∧ CommitOf b at_ n s t nx ok := by
 obtain ⟨m, x, ok, e2, _, hN⟩ := getNum_both b hb (by omega) at_ h0 h1
 have jT : ∀ m x : Int, Ev (fun q => spec_GetCommit.j0 q b at_ m x true) (0, (⟨#[]⟩ : ByteArray), ([] : List ByteArray), at_, false) := fun m x => by
  refine Ev.step (fun q => by simp only [spec_GetCommit.j0]; rfl) ?_
  exact Ev.pos trivial (Ev.now _)
 have bad : ∀ P : Prop, (∀ (a N : Nat) (s' : ByteArray) (t' : List ByteArray) r, at_ = (a : Int) → b.drop a = commitB N s' t' ++ r → headOk (N : Int) s' = true → 1 ≤ t'.length → t'.length ≤ 200 → (∀ x ∈ t', x.size ≤ 1000000000) → False) → CommitOf b at_ 0 ⟨#[]⟩ [] at_ false := fun _ h => ⟨fun q => (by cases q), fun _ => ⟨rfl, rfl, rfl, rfl, h⟩⟩
 unfold spec_GetCommit.f
 cases ok with
 | false =>
  obtain ⟨rfl, rfl, h3⟩ := hN.1 rfl
  refine ⟨0, ⟨#[]⟩, [], at_, false, Ev.bind e2 (Ev.neg (by simp) (jT _ _)), by simp, bad True fun a N s' t' r ha hr _ _ _ _ => ?_⟩
  unfold commitB at hr
  rw [List.append_assoc] at hr
  refine h3 a _ _ ha hr ?_
  have := congrArg List.length hr
  simp only [List.length_append, List.length_drop] at this
  omega
 | true =>
  obtain ⟨a, m, rfl, rfl, hm, hd, rfl, hle⟩ := hN.2 rfl
  have hp1 := num_pos m
  obtain ⟨p, hp⟩ : ∃ p, a + (num m).length = p := ⟨_, rfl⟩
  rw [hp] at e2 hd hle
  clear hN
  have cut : ∀ (N : Nat) (s' : ByteArray) (t' : List ByteArray) r, b.drop a = commitB N s' t' ++ r → m = (bodyB N s' t').length ∧ b.drop p = bodyB N s' t' ++ (sumB (bodyB N s' t') ++ r) := fun N s' t' r hr => by
   unfold commitB at hr
   rw [hd, List.append_assoc, List.append_assoc] at hr
   exact num_inj _ _ _ _ hr
  have w1 : wrap64 ((b.length : Int) - (p : Int)) = (b.length : Int) - (p : Int) := w64 (by omega) (by omega)
  have w2 : wrap64 ((b.length : Int) - (p : Int) - 4) = (b.length : Int) - (p : Int) - 4 := w64 (by omega) (by omega)
  by_cases hg : (m : Int) > (b.length : Int) - (p : Int) - 4
  ·refine ⟨0, ⟨#[]⟩, [], (a : Int), false, ?_, by simp, bad True fun a' N s' t' r ha hr _ _ _ _ => ?_⟩
   ·refine Ev.bind e2 (Ev.pos rfl ?_)
    simp only [w1, w2, decide_eq_true hg]
    exact jT _ _
   ·obtain rfl : a = a' := by omega
    obtain ⟨k1, k2⟩ := cut N s' t' r hr
    have := congrArg List.length k2
    simp only [List.length_append, List.length_drop, sumB_length] at this
    omega
  ·have w3 : wrap64 ((p : Int) + (m : Int)) = ((p + m : Nat) : Int) := by
    rw [w64 (by omega) (by omega)]
    omega
   have w4 : wrap64 (((p + m : Nat) : Int) + 4) = ((p + m + 4 : Nat) : Int) := by
    rw [w64 (by omega) (by omega)]
    omega
   have t1 : ((p + m : Nat) : Int).toNat = p + m := Int.toNat_natCast _
   have t2 : (p : Int).toNat = p := Int.toNat_natCast _
   have t3 : ((p + m + 4 : Nat) : Int).toNat = p + m + 4 := Int.toNat_natCast _
   obtain ⟨B, hB⟩ : ∃ B, (b.take (p + m)).drop p = B := ⟨_, rfl⟩
   have hB2 : B = (b.drop p).take m := by
    rw [← hB, List.drop_take]
    congr 1
    omega
   have hBl : B.length = m := by
    rw [hB2, List.length_take, List.length_drop]
    omega
   have hBb : InB B := by
    rw [hB2]
    exact inB_take (inB_drop hb p) m
   obtain ⟨G, hG⟩ : ∃ G, (b.take (p + m + 4)).drop (p + m) = G := ⟨_, rfl⟩
   have hGb : InB G := by
    rw [← hG]
    exact inB_drop (inB_take hb _) _
   have hBG : b.drop p = B ++ (G ++ b.drop (p + m + 4)) := by
    have i1 : b.drop p = (b.drop p).take m ++ (b.drop p).drop m := (List.take_append_drop _ _).symm
    have i2 : b.drop (p + m) = (b.drop (p + m)).take 4 ++ (b.drop (p + m)).drop 4 := (List.take_append_drop _ _).symm
    have i3 : G = (b.drop (p + m)).take 4 := by
     rw [← hG, List.drop_take]
     congr 1
     omega
    rw [List.drop_drop] at i1 i2
    rw [← i3] at i2
    rw [← hB2, i2] at i1
    exact i1
   have cutB : ∀ (N : Nat) (s' : ByteArray) (t' : List ByteArray) r, b.drop a = commitB N s' t' ++ r → B = bodyB N s' t' ∧ G = sumB (bodyB N s' t') := fun N s' t' r hr => by
    obtain ⟨k1, k2⟩ := cut N s' t' r hr
    rw [hBG] at k2
    obtain ⟨k3, k4⟩ := List.append_inj k2 (by rw [hBl, k1])
    refine ⟨k3, (List.append_inj k4 ?_).1⟩
    rw [sumB_length, ← hG, List.length_drop, List.length_take]
    omega
   have start : ∀ r, Ev (fun q => (spec_GetNum.f q B 0).bind fun bt9 => ((spec_GetText.f q B bt9.2.1).bind fun bt12 => ((spec_GetTexts.f q B bt12.2.1).bind fun bt15 => (if bt9.2.2 = true then (if bt12.2.2 = true then (if bt15.2.2 = true then (if bt15.2.1 = (B.length : Int) then ((spec_HeadOk.f bt9.1 bt12.1).bind fun t21 => (if t21 = true then (if (bt15.1.length : Int) = 0 then (some (0, (⟨#[]⟩ : ByteArray), (([] : List ByteArray)), (a : Int), false)) else ((spec_Digest.f q B).bind fun t26 => (if 4 ≤ (t26.size : Int) then (if (strOfNums G).toList = (t26.extract 0 4).toList then (some (bt9.1, bt12.1, bt15.1, ((p + m + 4 : Nat) : Int), true)) else (some (0, (⟨#[]⟩ : ByteArray), (([] : List ByteArray)), (a : Int), false))) else (none)))) else (some (0, (⟨#[]⟩ : ByteArray), (([] : List ByteArray)), (a : Int), false)))) else (some (0, (⟨#[]⟩ : ByteArray), (([] : List ByteArray)), (a : Int), false))) else (some (0, (⟨#[]⟩ : ByteArray), (([] : List ByteArray)), (a : Int), false))) else (some (0, (⟨#[]⟩ : ByteArray), (([] : List ByteArray)), (a : Int), false))) else (some (0, (⟨#[]⟩ : ByteArray), (([] : List ByteArray)), (a : Int), false)))))) r → Ev (fun q => (spec_GetNum.f q b (a : Int)).bind fun bt2 => (if bt2.2.2 = true then (spec_GetCommit.j0 q b (a : Int) bt2.1 bt2.2.1 (decide (bt2.1 > (wrap64 ((wrap64 ((b.length : Int) - bt2.2.1)) - 4))))) else (spec_GetCommit.j0 q b (a : Int) bt2.1 bt2.2.1 true))) r := fun r hr => by
    refine Ev.bind e2 (Ev.pos rfl ?_)
    simp only [w1, w2, decide_eq_false hg]
    have i1 : (0 : Int) ≤ ((p + m : Nat) : Int) := by omega
    have i2 : ((p + m : Nat) : Int) ≤ ((p + m + 4 : Nat) : Int) := by omega
    have i3 : ((p + m + 4 : Nat) : Int) ≤ (b.length : Int) := by omega
    have i4 : (0 : Nat) ≤ 4 := by decide
    refine Ev.step (fun q => by simp only [spec_GetCommit.j0, w3, w4, t1, t2, t3, hB, hG, if_pos i1, if_pos i2, if_pos i3, if_pos i4]; rfl) ?_
    exact Ev.neg (by simp) (Ev.pos (by omega) (Ev.pos (by omega) (Ev.pos (by omega) hr)))
   rcases num_step B hBb (by omega) 0 (by omega) with ⟨g0, _, z0⟩ | ⟨v0, p1, q0, l0, y0, r0, g0, _⟩
   ·obtain ⟨u1, x1, o1, s1, r1⟩ := text_any B hBb (by omega) 0 (by omega)
    obtain ⟨u2, x2, o2, s2, r2⟩ := texts_any B hBb (by omega) x1 (by omega)
    refine ⟨0, ⟨#[]⟩, [], (a : Int), false, start _ (Ev.bind g0 (Ev.bind s1 (Ev.bind s2 (Ev.neg (by simp) (Ev.now _))))), by simp, bad True fun a' N s' t' r ha hr hk c1 c2 c3 => ?_⟩
    obtain rfl : a = a' := by omega
    have hh := headOk_parts hk
    exact z0 N _ (show B.drop 0 = num N ++ (textB s' ++ textsB t') from (cutB N s' t' r hr).1) (by omega)
   ·rcases text_step B hBb (by omega) p1 (by omega) with ⟨g1, _, z1⟩ | ⟨v1, p2, q1, l1, y1, r1, g1, _⟩
    ·obtain ⟨u2, x2, o2, s2, r2⟩ := texts_any B hBb (by omega) 0 (by omega)
     refine ⟨0, ⟨#[]⟩, [], (a : Int), false, start _ (Ev.bind g0 (Ev.bind g1 (Ev.bind s2 (Ev.pos rfl (Ev.neg (by simp) (Ev.now _)))))), by simp, bad True fun a' N s' t' r ha hr hk c1 c2 c3 => ?_⟩
     obtain rfl : a = a' := by omega
     have hh := headOk_parts hk
     have d0 : B.drop 0 = num N ++ (textB s' ++ textsB t') := (cutB N s' t' r hr).1
     have d1 := (num_inj _ _ _ _ (y0.symm.trans d0)).2
     exact z1 s' _ d1 (by omega)
    ·rcases texts_step B hBb (by omega) p2 (by omega) with ⟨g2, _, z2⟩ | ⟨v2, p3, q2, s2, l2, y2, r2, g2, _⟩
     ·refine ⟨0, ⟨#[]⟩, [], (a : Int), false, start _ (Ev.bind g0 (Ev.bind g1 (Ev.bind g2 (Ev.pos rfl (Ev.pos rfl (Ev.neg (by simp) (Ev.now _))))))), by simp, bad True fun a' N s' t' r ha hr hk c1 c2 c3 => ?_⟩
      obtain rfl : a = a' := by omega
      have d0 : B.drop 0 = num N ++ (textB s' ++ textsB t') := (cutB N s' t' r hr).1
      have d1 := (num_inj _ _ _ _ (y0.symm.trans d0)).2
      have d2 := (textB_inj (y1.symm.trans d1)).2
      exact z2 t' [] (by rw [List.append_nil]; exact d2) c2 c3
     ·have hBB : B = bodyB v0 v1 v2 ++ B.drop p3 := by
       have e : B.drop 0 = num v0 ++ (textB v1 ++ (textsB v2 ++ B.drop p3)) := by rw [y0, y1, y2]
       unfold bodyB
       simp only [List.append_assoc]
       exact e
      have same : ∀ (N : Nat) (s' : ByteArray) (t' : List ByteArray) r, b.drop a = commitB N s' t' ++ r → v0 = N ∧ v1 = s' ∧ v2 = t' ∧ B.drop p3 = [] ∧ G = sumB B := fun N s' t' r hr => by
       obtain ⟨k1, k2⟩ := cutB N s' t' r hr
       obtain ⟨h1, h2, h3, h4⟩ := bodyB_inj (show bodyB v0 v1 v2 ++ B.drop p3 = bodyB N s' t' ++ [] by rw [List.append_nil, ← hBB, k1])
       exact ⟨h1, h2, h3, h4, by rw [k1]; exact k2⟩
      have hD := spec_Digest_ev B (by omega) hBb
      have hsz : (sha B).size = 32 := sha_size _
      by_cases hp3 : (p3 : Int) = (B.length : Int)
      ·have hnil : B.drop p3 = [] := List.drop_eq_nil_of_le (by omega)
       rw [hnil, List.append_nil] at hBB
       by_cases hk : headOk (v0 : Int) v1 = true
       ·by_cases hz : (v2.length : Int) = 0
        ·refine ⟨0, ⟨#[]⟩, [], (a : Int), false, start _ (Ev.bind g0 (Ev.bind g1 (Ev.bind g2 (Ev.pos rfl (Ev.pos rfl (Ev.pos rfl (Ev.pos hp3 (Ev.bind (Ev.const (spec_HeadOk_eq _ _)) (Ev.pos hk (Ev.pos hz (Ev.now _))))))))))), by simp, bad True fun a' N s' t' r ha hr hk2 c1 c2 c3 => ?_⟩
         obtain rfl : a = a' := by omega
         obtain ⟨_, _, rfl, _⟩ := same N s' t' r hr
         omega
        ·by_cases hsum : (strOfNums G).toList = ((sha B).extract 0 4).toList
         ·have hGs := (sum_iff hGb B).1 hsum
          have hlen : (commitB v0 v1 v2).length = (num m).length + m + 4 := by rw [commitB_length, ← hBB, hBl]
          refine ⟨(v0 : Int), v1, v2, ((p + m + 4 : Nat) : Int), true, start _ (Ev.bind g0 (Ev.bind g1 (Ev.bind g2 (Ev.pos rfl (Ev.pos rfl (Ev.pos rfl (Ev.pos hp3 (Ev.bind (Ev.const (spec_HeadOk_eq _ _)) (Ev.pos hk (Ev.neg hz (Ev.bind hD (Ev.pos (by omega) (Ev.pos hsum (Ev.now _)))))))))))))), q2, fun _ => ⟨a, v0, rfl, rfl, hk, by omega, ?_, ?_, ?_⟩, fun h => (by cases h)⟩
          ·rw [hlen, show a + ((num m).length + m + 4) = p + m + 4 by omega, hd, hBG, hGs]
           unfold commitB
           rw [← hBB, hBl]
           simp only [List.append_assoc]
          ·rw [hlen]
           congr 1
           omega
          ·rw [hlen]
           omega
         ·refine ⟨0, ⟨#[]⟩, [], (a : Int), false, start _ (Ev.bind g0 (Ev.bind g1 (Ev.bind g2 (Ev.pos rfl (Ev.pos rfl (Ev.pos rfl (Ev.pos hp3 (Ev.bind (Ev.const (spec_HeadOk_eq _ _)) (Ev.pos hk (Ev.neg hz (Ev.bind hD (Ev.pos (by omega) (Ev.neg hsum (Ev.now _)))))))))))))), by simp, bad True fun a' N s' t' r ha hr hk2 c1 c2 c3 => ?_⟩
          obtain rfl : a = a' := by omega
          obtain ⟨_, _, _, _, h5⟩ := same N s' t' r hr
          exact hsum ((sum_iff hGb B).2 h5)
       ·refine ⟨0, ⟨#[]⟩, [], (a : Int), false, start _ (Ev.bind g0 (Ev.bind g1 (Ev.bind g2 (Ev.pos rfl (Ev.pos rfl (Ev.pos rfl (Ev.pos hp3 (Ev.bind (Ev.const (spec_HeadOk_eq _ _)) (Ev.neg hk (Ev.now _)))))))))), by simp, bad True fun a' N s' t' r ha hr hk2 c1 c2 c3 => ?_⟩
        obtain rfl : a = a' := by omega
        obtain ⟨rfl, rfl, _⟩ := same N s' t' r hr
        exact hk hk2
      ·refine ⟨0, ⟨#[]⟩, [], (a : Int), false, start _ (Ev.bind g0 (Ev.bind g1 (Ev.bind g2 (Ev.pos rfl (Ev.pos rfl (Ev.pos rfl (Ev.neg hp3 (Ev.now _)))))))), by simp, bad True fun a' N s' t' r ha hr hk2 c1 c2 c3 => ?_⟩
       obtain rfl : a = a' := by omega
       obtain ⟨_, _, _, h4, _⟩ := same N s' t' r hr
       have := congrArg List.length h4
       rw [List.length_drop] at this
       simp only [List.length_nil] at this
       omega
theorem commit_small {b : List Int} {a N : Nat} {s : ByteArray} {t : List ByteArray} {r : List Int} (hl : b.length ≤ 10000000) (h : b.drop a = commitB N s t ++ r) : ∀ x ∈ t, x.size ≤ 1000000000 := fun x hx => by
 have h1 := congrArg List.length h
 rw [List.length_drop, List.length_append, commitB_length] at h1
 have h2 := bodyB_ge N s t
 have h3 := total_mem hx
 omega
theorem getCommit_both (b : List Int) (hb : InB b) (hl : b.length ≤ 10000000) (at_ : Int) (h0 : -9223372036854775808 ≤ at_) (h1 : at_ ≤ 9223372036854775807) :
  ∃ n s t nx ok, Ev (fun q => spec_GetCommit.f q b at_) (n, s, t, nx, ok) ∧ Ev (fun q => impl_GetCommit.f q b at_) (n, s, t, nx, ok) ∧ t.length ≤ 200 := by
 obtain ⟨n, s, t, nx, ok, e1, ht, c1, c2⟩ := getCommitI b hb hl at_ h0 h1
 obtain ⟨n', s', t', nx', ok', e2, ht', d1, d2⟩ := getCommitS b hb hl at_ h0 h1
 cases ok with
 | true =>
  obtain ⟨a, N, rfl, rfl, hk, hz, hd, rfl, hle⟩ := c1 rfl
  cases ok' with
  | true =>
   obtain ⟨a', N', ha, rfl, hk', hz', hd', rfl, hle'⟩ := d1 rfl
   obtain rfl : a = a' := by omega
   obtain ⟨rfl, rfl, rfl, _⟩ := commitB_inj (hd.symm.trans hd')
   exact ⟨_, _, _, _, _, e2, e1, ht⟩
  | false => exact absurd ((d2 rfl).2.2.2.2 a N s t _ rfl hd hk hz ht (commit_small hl hd)) id
 | false =>
  obtain ⟨rfl, rfl, rfl, rfl, c3⟩ := c2 rfl
  cases ok' with
  | true =>
   obtain ⟨a', N', rfl, rfl, hk', hz', hd', rfl, hle'⟩ := d1 rfl
   exact absurd (c3 a' N' s' t' _ rfl hd' hk' hz' ht' (commit_small hl hd')) id
  | false =>
   obtain ⟨rfl, rfl, rfl, rfl, _⟩ := d2 rfl
   exact ⟨_, _, _, _, _, e2, e1, ht⟩
def bigB : Nat := 1048608
theorem node_small {a b : ByteArray} (ha : a.size ≤ bigB) (hb : b.size ≤ bigB) : a.size + b.size ≤ 1099511627775 := by unfold bigB at *; omega
theorem mem_take_of {l : List ByteArray} {n : Nat} (h : ∀ x ∈ l, x.size ≤ bigB) : ∀ x ∈ l.take n, x.size ≤ bigB := fun x hx => h x (List.mem_of_mem_take hx)
theorem mem_drop_of {l : List ByteArray} {n : Nat} (h : ∀ x ∈ l, x.size ≤ bigB) : ∀ x ∈ l.drop n, x.size ≤ bigB := fun x hx => h x (List.mem_of_mem_drop hx)
theorem leafs_small (l : List ByteArray) : ∀ x ∈ l, (leafH x).size ≤ bigB := fun x _ => by rw [leafH_size]; decide
theorem root_small (l : List ByteArray) : (rootBy leafH l).size ≤ bigB := rootBy_size leafH bigB (by decide) _ (leafs_small l)
theorem root_32 (l : List ByteArray) : (rootBy leafH l).size = 32 := by
 by_cases h : 2 ≤ l.length
 ·rw [rootBy_more leafH h]
  exact nodeH_size _ _
 ·by_cases h0 : l.length = 0
  ·rw [List.eq_nil_of_length_eq_zero h0, rootBy_nil]
   exact sha_size _
  ·obtain ⟨a, rfl⟩ := list_one (l := l) (by omega)
   rw [rootBy_one]
   exact leafH_size _
theorem rooted_impl : ∀ (n : Nat) (l : List ByteArray), l.length ≤ n → l.length ≤ 4611686018427387904 → (∀ x ∈ l, x.size ≤ bigB) → Ev (fun k => impl_rootOf.f k l) (rootBy leafH l) := by
 intro n
 induction n with
 | zero =>
  intro l h1 h2 hs
  obtain rfl := List.eq_nil_of_length_eq_zero (show l.length = 0 by omega)
  rw [rootBy_nil]
  refine Ev.step (fun k => by simp only [impl_rootOf.f]; rfl) ?_
  exact Ev.pos rfl (Ev.bind (Ev.const (impl_Digest_is [] (by decide))) (Ev.now _))
 | succ n ih =>
  intro l h1 h3 hs
  by_cases h : 2 ≤ l.length
  ·obtain ⟨p1, p2, p3, p4⟩ := cut_parts l h
   have hh := half_lt h
   have e1 := ih (l.take (half l.length)) (by omega) (by omega) (mem_take_of hs)
   have e2 := ih (l.drop (half l.length)) (by omega) (by omega) (mem_drop_of hs)
   have e3 := impl_node _ _ (node_small (root_small (l.take (half l.length))) (root_small (l.drop (half l.length))))
   rw [rootBy_more leafH h]
   refine Ev.step (fun k => by simp only [impl_rootOf.f]; rfl) ?_
   refine Ev.neg (by omega) (Ev.neg (by omega) (Ev.bind (impl_half_ev l.length h h3) ?_))
   exact Ev.pos (by omega) (Ev.pos (by omega) (Ev.bind e1 (Ev.bind e2 (Ev.bind (Ev.const e3) (Ev.now _)))))
  ·match l, h with
   | [], _ =>
    rw [rootBy_nil]
    refine Ev.step (fun k => by simp only [impl_rootOf.f]; rfl) ?_
    exact Ev.pos rfl (Ev.bind (Ev.const (impl_Digest_is [] (by decide))) (Ev.now _))
   | [a], _ =>
    rw [rootBy_one]
    have ha := hs a (by simp)
    refine Ev.step (fun k => by simp only [impl_rootOf.f]; rfl) ?_
    refine Ev.neg (by simp) (Ev.pos rfl (Ev.pos (by simp) ?_))
    exact Ev.bind (Ev.const (impl_leaf a (by unfold bigB at ha; omega))) (Ev.now _)
   | _ :: _ :: _, h => simp at h
theorem rooted_spec : ∀ (n : Nat) (l : List ByteArray), l.length ≤ n → l.length ≤ 4611686018427387904 → (∀ x ∈ l, x.size ≤ bigB) → Ev (fun k => spec_l6Root.f k l) (rootBy leafH l) := by
 intro n
 induction n with
 | zero =>
  intro l h1 h2 hs
  obtain rfl := List.eq_nil_of_length_eq_zero (show l.length = 0 by omega)
  rw [rootBy_nil]
  refine Ev.step (fun k => by simp only [spec_l6Root.f]; rfl) ?_
  exact Ev.pos rfl (Ev.bind (spec_Digest_ev [] (by decide) (by simp)) (Ev.now _))
 | succ n ih =>
  intro l h1 h3 hs
  by_cases h : 2 ≤ l.length
  ·obtain ⟨p1, p2, p3, p4⟩ := cut_parts l h
   have hh := half_lt h
   have e1 := ih (l.take (half l.length)) (by omega) (by omega) (mem_take_of hs)
   have e2 := ih (l.drop (half l.length)) (by omega) (by omega) (mem_drop_of hs)
   have e3 := spec_node _ _ (node_small (root_small (l.take (half l.length))) (root_small (l.drop (half l.length))))
   rw [rootBy_more leafH h]
   refine Ev.step (fun k => by simp only [spec_l6Root.f]; rfl) ?_
   refine Ev.neg (by omega) (Ev.neg (by omega) (Ev.bind (spec_half l.length h h3) ?_))
   exact Ev.pos (by omega) (Ev.pos (by omega) (Ev.bind e1 (Ev.bind e2 (Ev.bind e3 (Ev.now _)))))
  ·match l, h with
   | [], _ =>
    rw [rootBy_nil]
    refine Ev.step (fun k => by simp only [spec_l6Root.f]; rfl) ?_
    exact Ev.pos rfl (Ev.bind (spec_Digest_ev [] (by decide) (by simp)) (Ev.now _))
   | [a], _ =>
    rw [rootBy_one]
    have ha := hs a (by simp)
    refine Ev.step (fun k => by simp only [spec_l6Root.f]; rfl) ?_
    refine Ev.neg (by simp) (Ev.pos rfl (Ev.pos (by simp) ?_))
    exact Ev.bind (spec_leaf a (by unfold bigB at ha; omega)) (Ev.now _)
   | _ :: _ :: _, h => simp at h
def headOf (l : List ByteArray) : Int × ByteArray := if (l.length : Int) > 200 then (0, ⟨#[]⟩) else ((l.length : Int), rootBy leafH l)
theorem headOf_few {l : List ByteArray} (h : l.length ≤ 200) : headOf l = ((l.length : Int), rootBy leafH l) := if_neg (by omega)
theorem headOf_many {l : List ByteArray} (h : ¬ l.length ≤ 200) : headOf l = (0, ⟨#[]⟩) := if_pos (by omega)
theorem spec_HeadOf_ev (l : List ByteArray) (hs : ∀ x ∈ l, x.size ≤ bigB) : Ev (fun k => spec_HeadOf.f k l) (headOf l) := by
 unfold spec_HeadOf.f
 by_cases h : l.length ≤ 200
 ·rw [headOf_few h]
  exact Ev.neg (by omega) (Ev.bind (rooted_spec l.length l (Nat.le_refl _) (by omega) hs) (Ev.now _))
 ·rw [headOf_many h]
  exact Ev.pos (by omega) (Ev.now _)
theorem impl_HeadOf_ev (l : List ByteArray) (hs : ∀ x ∈ l, x.size ≤ bigB) : Ev (fun k => impl_HeadOf.f k l) (headOf l) := by
 unfold impl_HeadOf.f
 by_cases h : l.length ≤ 200
 ·rw [headOf_few h]
  exact Ev.neg (by omega) (Ev.bind (rooted_impl l.length l (Nat.le_refl _) (by omega) hs) (Ev.now _))
 ·rw [headOf_many h]
  exact Ev.pos (by omega) (Ev.now _)
def logOk (l : List ByteArray) (n : Int) (s : ByteArray) : Bool := if (l.length : Int) ≤ 200 then (n == (headOf l).1 && (s.toList == (headOf l).2.toList)) else false
theorem spec_LogOk_ev (l : List ByteArray) (n : Int) (s : ByteArray) (hs : ∀ x ∈ l, x.size ≤ bigB) : Ev (fun k => spec_LogOk.f k l n s) (logOk l n s) := by
 unfold spec_LogOk.f logOk
 by_cases h : (l.length : Int) ≤ 200
 ·rw [if_pos h]
  exact Ev.pos h (Ev.bind (spec_HeadOf_ev l hs) (Ev.now _))
 ·rw [if_neg h]
  exact Ev.neg h (Ev.now _)
theorem impl_LogOk_ev (l : List ByteArray) (n : Int) (s : ByteArray) (hs : ∀ x ∈ l, x.size ≤ bigB) : Ev (fun k => impl_LogOk.f k l n s) (logOk l n s) := by
 unfold impl_LogOk.f logOk
 by_cases h : (l.length : Int) ≤ 200
 ·rw [if_pos h]
  exact Ev.pos h (Ev.bind (impl_HeadOf_ev l hs) (Ev.now _))
 ·rw [if_neg h]
  exact Ev.neg h (Ev.now _)
theorem log_new : Ev (fun k => spec_LogNew.f k) (([] : List ByteArray), (headOf []).1, (headOf []).2) := by
 unfold spec_LogNew.f
 exact Ev.bind (spec_HeadOf_ev [] (by simp)) (Ev.now _)
theorem ev_uniq {α : Type} {g : Nat → Option α} {r q : α} (h : Ev g r) (k : Ev g q) : r = q := by
 obtain ⟨K, h⟩ := h
 obtain ⟨M, k⟩ := k
 exact Option.some.inj ((h (max K M) (Nat.le_max_left _ _)).symm.trans (k (max K M) (Nat.le_max_right _ _)))
theorem getCommit_step (b : List Int) (hb : InB b) (hl : b.length ≤ 1048576) (a : Nat) (ha : a ≤ b.length) :
  ∃ n s t nx ok, Ev (fun q => spec_GetCommit.f q b (a : Int)) (n, s, t, nx, ok) ∧ Ev (fun q => impl_GetCommit.f q b (a : Int)) (n, s, t, nx, ok) ∧ t.length ≤ 200 ∧ (∀ x ∈ t, x.size ≤ bigB) ∧
   (ok = true → ∃ c : Nat, nx = (c : Int) ∧ a < c ∧ c ≤ b.length) ∧ (ok = false → t = []) := by
 obtain ⟨n, s, t, nx, ok, e1, ht, c1, c2⟩ := getCommitI b hb (by omega) (a : Int) (by omega) (by omega)
 obtain ⟨n', s', t', nx', ok', e2, e3, _⟩ := getCommit_both b hb (by omega) (a : Int) (by omega) (by omega)
 have h := ev_uniq e3 e1
 simp only [Prod.mk.injEq] at h
 obtain ⟨rfl, rfl, rfl, rfl, rfl⟩ := h
 refine ⟨_, _, _, _, _, e2, e1, ht, ?_, ?_, ?_⟩
 ·cases hok : ok' with
  | true =>
   obtain ⟨a', N, h1, rfl, _, _, hd, _, hle⟩ := c1 hok
   intro x hx
   have h2 := commitB_length N s' t'
   have h3 := bodyB_ge N s' t'
   have h4 := total_mem hx
   unfold bigB
   omega
  | false =>
   obtain ⟨_, _, rfl, _⟩ := c2 hok
   intro x hx
   cases hx
 ·intro hok
  obtain ⟨a', N, h1, rfl, _, _, hd, h2, hle⟩ := c1 hok
  have h3 := commitB_length N s' t'
  exact ⟨_, h2, by omega, hle⟩
 ·intro hok
  exact (c2 hok).2.2.1
theorem sizes_app {l t : List ByteArray} (h : ∀ x ∈ l, x.size ≤ bigB) (k : ∀ x ∈ t, x.size ≤ bigB) : ∀ x ∈ l ++ t, x.size ≤ bigB := fun x hx => (List.mem_append.1 hx).elim (h x) (k x)
theorem impl_many (b : List Int) (hb : InB b) (hl : b.length ≤ 1048576) (L : List ByteArray) (hL : L.length ≤ 200) (N : Int) (S : ByteArray) (U : Int) : ∀ (m a : Nat) (T : List ByteArray), b.length - a ≤ m → a ≤ b.length → 200 < T.length → T.length + 200 * (b.length - a) ≤ 1000000000 → (∀ x ∈ T, x.size ≤ bigB) →
  Ev (fun k => impl_StoreOk.l0 k T (a : Int) L N S b U) false := by
 intro m
 induction m with
 | zero =>
  intro a T h1 h2 h3 h4 h5
  refine Ev.step (fun k => by simp only [impl_StoreOk.l0]; rfl) ?_
  refine Ev.neg (by omega) (Ev.bind (impl_same_ev T L (by omega)) ?_)
  rw [decide_eq_false (fun e => by rw [e] at h3; omega)]
  exact Ev.now _
 | succ m ih =>
  intro a T h1 h2 h3 h4 h5
  refine Ev.step (fun k => by simp only [impl_StoreOk.l0]; rfl) ?_
  by_cases ha : (a : Int) < (b.length : Int)
  ·obtain ⟨n, s, t, nx, ok, e1, e2, ht, hs, c1, c2⟩ := getCommit_step b hb hl a h2
   refine Ev.pos ha (Ev.bind e2 ?_)
   simp only
   refine Ev.pos (by omega) ?_
   simp only [Option.bind_some]
   cases ok with
   | false => exact Ev.neg (by simp) (Ev.now _)
   | true =>
    obtain ⟨c, rfl, h6, h7⟩ := c1 rfl
    refine Ev.pos rfl (Ev.bind (impl_HeadOf_ev (T ++ t) (sizes_app h5 hs)) ?_)
    by_cases hh : (!(n == (headOf (T ++ t)).1) || (!(s.toList == (headOf (T ++ t)).2.toList))) = true
    ·exact Ev.pos hh (Ev.now _)
    ·refine Ev.neg hh (ih c (T ++ t) (by omega) h7 (by rw [List.length_append]; omega) (by rw [List.length_append]; omega) (sizes_app h5 hs))
  ·refine Ev.neg ha (Ev.bind (impl_same_ev T L (by omega)) ?_)
   rw [decide_eq_false (fun e => by rw [e] at h3; omega)]
   exact Ev.now _
theorem replay_both (b : List Int) (hb : InB b) (hl : b.length ≤ 1048576) (L : List ByteArray) (hL : L.length ≤ 200) (N : Int) (S : ByteArray) (U : Int) : ∀ (m a : Nat) (T : List ByteArray) (n : Int) (s : ByteArray), b.length - a ≤ m → a ≤ b.length → T.length ≤ 200 → (∀ x ∈ T, x.size ≤ bigB) →
  ∃ T' n' s' ok, Ev (fun k => spec_l12Replay.l0 k b (a : Int) T n s) (T', n', s', ok) ∧ T'.length ≤ 200 ∧ (∀ x ∈ T', x.size ≤ bigB) ∧ Ev (fun k => impl_StoreOk.l0 k T (a : Int) L N S b U) (if ok = true then decide (T' = L) else false) := by
 intro m
 induction m with
 | zero =>
  intro a T n s h1 h2 h3 h5
  refine ⟨T, n, s, true, ?_, h3, h5, ?_⟩
  ·refine Ev.step (fun k => by simp only [spec_l12Replay.l0]; rfl) ?_
   exact Ev.neg (by omega) (Ev.now _)
  ·refine Ev.step (fun k => by simp only [impl_StoreOk.l0]; rfl) ?_
   exact Ev.neg (by omega) (Ev.bind (impl_same_ev T L (by omega)) (Ev.now _))
 | succ m ih =>
  intro a T n s h1 h2 h3 h5
  by_cases ha : (a : Int) < (b.length : Int)
  ·obtain ⟨n1, s1, t, nx, ok, e1, e2, ht, hs, c1, c2⟩ := getCommit_step b hb hl a h2
   cases ok with
   | false =>
    refine ⟨T, n, s, false, ?_, h3, h5, ?_⟩
    ·refine Ev.step (fun k => by simp only [spec_l12Replay.l0]; rfl) ?_
     refine Ev.pos ha (Ev.bind e1 (Ev.neg (by simp) ?_))
     refine Ev.step (fun k => by simp only [spec_l12Replay.j1]; rfl) ?_
     exact Ev.pos trivial (Ev.now _)
    ·refine Ev.step (fun k => by simp only [impl_StoreOk.l0]; rfl) ?_
     refine Ev.pos ha (Ev.bind e2 (Ev.pos (by simp only; omega) ?_))
     simp only [Option.bind_some]
     exact Ev.neg (by simp) (Ev.now _)
   | true =>
    obtain ⟨c, rfl, h6, h7⟩ := c1 rfl
    have hw : wrap64 ((T.length : Int) + (t.length : Int)) = ((T.length + t.length : Nat) : Int) := by
     rw [w64 (by omega) (by omega)]
     omega
    have hsz := sizes_app h5 hs
    have hI : ∀ r, Ev (fun k => if (!(n1 == (headOf (T ++ t)).1) || (!(s1.toList == (headOf (T ++ t)).2.toList))) = true then some false else impl_StoreOk.l0 k (T ++ t) (c : Int) L N S b U) r → Ev (fun k => impl_StoreOk.l0 k T (a : Int) L N S b U) r := by
     intro r hr
     refine Ev.step (fun k => by simp only [impl_StoreOk.l0]; rfl) ?_
     refine Ev.pos ha (Ev.bind e2 (Ev.pos (by simp only; omega) ?_))
     simp only [Option.bind_some]
     exact Ev.pos trivial (Ev.bind (impl_HeadOf_ev (T ++ t) hsz) hr)
    by_cases hm : T.length + t.length ≤ 200
    ·have hS : ∀ r, Ev (fun k => if (!(n1 == (headOf (T ++ t)).1) || (!(s1.toList == (headOf (T ++ t)).2.toList))) = true then some (T ++ t, n1, s1, false) else spec_l12Replay.l0 k b (c : Int) (T ++ t) n1 s1) r → Ev (fun k => spec_l12Replay.l0 k b (a : Int) T n s) r := by
      intro r hr
      refine Ev.step (fun k => by simp only [spec_l12Replay.l0]; rfl) ?_
      refine Ev.pos ha (Ev.bind e1 (Ev.pos rfl ?_))
      simp only [hw]
      rw [decide_eq_false (by omega)]
      refine Ev.step (fun k => by simp only [spec_l12Replay.j1]; rfl) ?_
      refine Ev.neg (by simp) (Ev.pos (by omega) ?_)
      simp only [Option.bind_some]
      exact Ev.bind (spec_HeadOf_ev (T ++ t) hsz) hr
     have hlen : (T ++ t).length ≤ 200 := by rw [List.length_append]; exact hm
     by_cases hh : (!(n1 == (headOf (T ++ t)).1) || (!(s1.toList == (headOf (T ++ t)).2.toList))) = true
     ·exact ⟨_, _, _, false, hS _ (Ev.pos hh (Ev.now _)), hlen, hsz, hI _ (Ev.pos hh (Ev.now _))⟩
     ·obtain ⟨T', n', s', ok, f1, f2, f3, f4⟩ := ih c (T ++ t) n1 s1 (by omega) h7 hlen hsz
      exact ⟨T', n', s', ok, hS _ (Ev.neg hh f1), f2, f3, hI _ (Ev.neg hh f4)⟩
    ·refine ⟨T, n, s, false, ?_, h3, h5, ?_⟩
     ·refine Ev.step (fun k => by simp only [spec_l12Replay.l0]; rfl) ?_
      refine Ev.pos ha (Ev.bind e1 (Ev.pos rfl ?_))
      simp only [hw]
      rw [decide_eq_true (by omega)]
      refine Ev.step (fun k => by simp only [spec_l12Replay.j1]; rfl) ?_
      exact Ev.pos trivial (Ev.now _)
     ·refine hI _ ?_
      by_cases hh : (!(n1 == (headOf (T ++ t)).1) || (!(s1.toList == (headOf (T ++ t)).2.toList))) = true
      ·exact Ev.pos hh (Ev.now _)
      ·exact Ev.neg hh (impl_many b hb hl L hL N S U (b.length - c) c (T ++ t) (Nat.le_refl _) h7 (by rw [List.length_append]; omega) (by rw [List.length_append]; omega) hsz)
  ·refine ⟨T, n, s, true, ?_, h3, h5, ?_⟩
   ·refine Ev.step (fun k => by simp only [spec_l12Replay.l0]; rfl) ?_
    exact Ev.neg ha (Ev.now _)
   ·refine Ev.step (fun k => by simp only [impl_StoreOk.l0]; rfl) ?_
    exact Ev.neg ha (Ev.bind (impl_same_ev T L (by omega)) (Ev.now _))
theorem storeOk_both (l : List ByteArray) (n : Int) (s : ByteArray) (b : List Int) (u : Int) (hb : InB b) (hl : b.length ≤ 1048576) (hs : ∀ x ∈ l, x.size ≤ bigB) :
  ∃ r, Ev (fun k => spec_StoreOk.f k l n s b u) r ∧ Ev (fun k => impl_StoreOk.f k l n s b u) r := by
 have jS : Ev (fun k => spec_StoreOk.j0 k true l n s b u) false := by
  refine Ev.step (fun k => by simp only [spec_StoreOk.j0]; rfl) ?_
  exact Ev.pos trivial (Ev.now _)
 have jI : Ev (fun k => impl_StoreOk.j0 k true l n s b u) false := by
  refine Ev.step (fun k => by simp only [impl_StoreOk.j0]; rfl) ?_
  exact Ev.pos trivial (Ev.now _)
 have lS := spec_LogOk_ev l n s hs
 have lI := impl_LogOk_ev l n s hs
 unfold spec_StoreOk.f impl_StoreOk.f
 by_cases h1 : logOk l n s = true
 ·by_cases h2 : (b.length : Int) > 60000
  ·exact ⟨false, Ev.bind lS (Ev.pos h1 (Ev.pos h2 jS)), Ev.bind lI (Ev.pos h1 (Ev.pos h2 jI))⟩
  ·have hlen : l.length ≤ 200 := by
    unfold logOk at h1
    by_cases h : (l.length : Int) ≤ 200
    ·omega
    ·rw [if_neg h] at h1
     cases h1
   have iS : spec_l1In.f u 0 (b.length : Int) = some (decide (0 ≤ u) && decide (u ≤ (b.length : Int))) := by
    unfold spec_l1In.f
    by_cases h : u ≥ 0
    ·rw [if_pos h, decide_eq_true h]
     rfl
    ·rw [if_neg h, decide_eq_false h]
     rfl
   have iI : impl_inRange.f u 0 (b.length : Int) = some (decide (0 ≤ u) && decide (u ≤ (b.length : Int))) := by
    unfold impl_inRange.f
    by_cases h : u ≥ 0
    ·rw [if_pos h, decide_eq_true h]
     rfl
    ·rw [if_neg h, decide_eq_false h]
     rfl
   have fin : ∀ q : Bool, ∃ r, Ev (fun k => spec_StoreOk.j0 k (!q) l n s b u) r ∧ Ev (fun k => impl_StoreOk.j0 k (!q) l n s b u) r := by
    intro q
    cases q with
    | false => exact ⟨false, jS, jI⟩
    | true =>
     obtain ⟨T', n', s', ok, f1, f2, f3, f4⟩ := replay_both b hb hl l hlen n s u b.length 0 [] (headOf []).1 (headOf []).2 (by omega) (by omega) (by simp) (by simp)
     have fI : Ev (fun k => impl_StoreOk.j0 k (!true) l n s b u) (if ok = true then decide (T' = l) else false) := by
      refine Ev.step (fun k => by simp only [impl_StoreOk.j0]; rfl) ?_
      exact Ev.neg (by simp) f4
     have rS : Ev (fun k => spec_l12Replay.f k b) (T', n', s', ok) := by
      unfold spec_l12Replay.f
      exact Ev.bind log_new f1
     refine ⟨_, ?_, fI⟩
     refine Ev.step (fun k => by simp only [spec_StoreOk.j0]; rfl) ?_
     refine Ev.neg (by simp) (Ev.bind rS ?_)
     cases ok with
     | true => exact Ev.pos rfl (Ev.bind (spec_same_ev T' l (by omega)) (Ev.now _))
     | false => exact Ev.neg (by simp) (Ev.now _)
   obtain ⟨r, r1, r2⟩ := fin (decide (0 ≤ u) && decide (u ≤ (b.length : Int)))
   exact ⟨r, Ev.bind lS (Ev.pos h1 (Ev.neg h2 (Ev.bind (Ev.const iS) r1))), Ev.bind lI (Ev.pos h1 (Ev.neg h2 (Ev.bind (Ev.const iI) r2)))⟩
 ·exact ⟨false, Ev.bind lS (Ev.neg h1 jS), Ev.bind lI (Ev.neg h1 jI)⟩
theorem l12Put_val (n : Nat) (s : ByteArray) (t : List ByteArray) (hn : n ≤ 200) (hs : s.size ≤ 1000) (ht : t.length ≤ 1000000) (htt : total t ≤ 100000000) (hx : ∀ x ∈ t, x.size ≤ 1000000000) : Ev (fun q => spec_l12Put.f q (n : Int) s t) (commitB n s t) := by
 have ht0 := total_nonneg t
 have a2 := (putNum_val [] n (by omega) (by simp)).1
 have h5 := num_five (show n ≤ 1000000000 by omega)
 have hs5 := num_five (show s.size ≤ 1000000000 by omega)
 have b2 := (putText_val ([] ++ num n) s (by omega) (by simp; omega)).1
 have c2 := (putTexts_val ([] ++ num n ++ textB s) t (by rw [List.length_append, textB_length]; simp; omega) (by omega) hx).1
 have eb : [] ++ num n ++ textB s ++ textsB t = bodyB n s t := by
  unfold bodyB
  simp
 rw [eb] at c2
 have hm := manyB_length t hx
 have ht5 := num_five (show t.length ≤ 1000000000 by omega)
 have hbl : (bodyB n s t).length ≤ 1000000000 := by
  unfold bodyB textsB
  rw [List.length_append, List.length_append, List.length_append, textB_length]
  omega
 have h4 : ((sha (bodyB n s t)).extract 0 4).size = 4 := by
  rw [ByteArray.size_extract, sha_size]
  rfl
 have h32 : (sha (bodyB n s t)).size = 32 := sha_size _
 have d2 := (putNum_val [] (bodyB n s t).length hbl (by simp)).1
 have hd5 := num_five hbl
 rw [List.nil_append] at d2
 unfold spec_l12Put.f commitB sumB
 refine Ev.bind a2 (Ev.bind b2 (Ev.bind c2 (Ev.bind d2 (Ev.pos (by omega) (Ev.bind (Ev.now _) (Ev.bind (spec_Digest_ev (bodyB n s t) (by omega) (bodyB_inB n s t)) ?_))))))
 rw [← List.append_assoc]
 exact Ev.pos (by omega) (Ev.pos (by omega) (Ev.pos (by rw [List.length_append, h4]; omega) (Ev.now _)))
def isHead (l : List ByteArray) (a : Int) (z : ByteArray) : Bool := a == (headOf l).1 && (z.toList == (headOf l).2.toList)
def extOf (t : List IHead) (l : List ByteArray) (n : Int) (s : ByteArray) (a : Int) (z : ByteArray) (x : List ByteArray) : List ByteArray × Int × ByteArray × Int :=
 if (headOk a z && (a == ((l.length + x.length : Nat) : Int))) = true then
  (if hasHead t a z = true then (if x.length = 0 then (l, n, s, 3) else (if isHead (l ++ x) a z = true then (l ++ x, a, z, 0) else (l, n, s, 4))) else (l, n, s, 2))
 else (l, n, s, 1)
def extendOf (t : List IHead) (l : List ByteArray) (n : Int) (s : ByteArray) (a : Int) (z : ByteArray) (x : List ByteArray) : List ByteArray × Int × ByteArray × Int :=
 if logOk l n s = true then extOf t l n s a z x else (l, n, s, 1)
theorem ne_head (a b : Int) (u v : List UInt8) : (!(a == b) || !(u == v)) = !(a == b && (u == v)) := by simp
theorem extend_j0S (t : List IHead) (l : List ByteArray) (n : Int) (s : ByteArray) (a : Int) (z : ByteArray) (x : List ByteArray) (ht : t.length ≤ 9223372036854775807) (hs : ∀ y ∈ l ++ x, y.size ≤ bigB) (hf : Bool) :
  Ev (fun k => spec_Extend.j0 k t x (l ++ x) hf a z l n s) (if hf = true then (l, n, s, 1) else (if hasHead t a z = true then (if x.length = 0 then (l, n, s, 3) else (if isHead (l ++ x) a z = true then (l ++ x, a, z, 0) else (l, n, s, 4))) else (l, n, s, 2))) := by
 refine Ev.step (fun k => by simp only [spec_Extend.j0]; rfl) ?_
 cases hf with
 | true => exact Ev.pos rfl (Ev.now _)
 | false =>
  refine Ev.neg (by simp) (Ev.bind (spec_IsSigned_ev t a z ht) ?_)
  rw [if_neg (by simp)]
  by_cases h1 : hasHead t a z = true
  ·rw [if_pos h1]
   refine Ev.pos h1 ?_
   by_cases h2 : x.length = 0
   ·rw [if_pos h2]
    exact Ev.pos (by omega) (Ev.now _)
   ·rw [if_neg h2]
    refine Ev.neg (by omega) (Ev.bind (spec_HeadOf_ev (l ++ x) hs) ?_)
    rw [ne_head]
    by_cases h3 : isHead (l ++ x) a z = true
    ·rw [if_pos h3]
     exact Ev.neg (by unfold isHead at h3; rw [h3]; simp) (Ev.now _)
    ·rw [if_neg h3]
     exact Ev.pos (by unfold isHead at h3; rw [Bool.eq_false_iff.mpr h3]; rfl) (Ev.now _)
  ·rw [if_neg h1]
   exact Ev.neg h1 (Ev.now _)
theorem ext_form (t : List IHead) (l : List ByteArray) (n : Int) (s : ByteArray) (a : Int) (z : ByteArray) (x : List ByteArray) :
  extOf t l n s a z x = (if headOk a z = true then (if (a != ((l.length + x.length : Nat) : Int)) = true then (l, n, s, 1) else (if hasHead t a z = true then (if x.length = 0 then (l, n, s, 3) else (if isHead (l ++ x) a z = true then (l ++ x, a, z, 0) else (l, n, s, 4))) else (l, n, s, 2))) else (l, n, s, 1)) := by
 unfold extOf
 cases headOk a z <;> by_cases h : a = ((l.length + x.length : Nat) : Int) <;> simp [h]
theorem spec_Extend_ev (t : List IHead) (l : List ByteArray) (n : Int) (s : ByteArray) (a : Int) (z : ByteArray) (x : List ByteArray) (ht : t.length ≤ 9223372036854775807) (hs : ∀ y ∈ l ++ x, y.size ≤ bigB) (hl : l.length + x.length ≤ 1000000000) :
  Ev (fun k => spec_Extend.f k l n s t a z x) (extendOf t l n s a z x) := by
 have hs0 : ∀ y ∈ l, y.size ≤ bigB := fun y hy => hs y (List.mem_append_left _ hy)
 unfold spec_Extend.f extendOf
 rw [spec_l11Copy_eq l n s (by omega)]
 simp only [Option.bind_some, List.length_nil, List.nil_append, List.length_append, Nat.zero_add]
 refine Ev.pos (by omega) (Ev.pos (by omega) (Ev.bind (spec_LogOk_ev l n s hs0) ?_))
 by_cases h0 : logOk l n s = true
 ·rw [if_pos h0, ext_form]
  refine Ev.pos h0 (Ev.bind (Ev.const (spec_HeadOk_eq a z)) ?_)
  by_cases h1 : headOk a z = true
  ·rw [if_pos h1]
   exact Ev.pos h1 (extend_j0S t l n s a z x ht hs _)
  ·rw [if_neg h1]
   exact Ev.neg h1 (Ev.one (extend_j0S t l n s a z x ht hs true) (by rw [if_pos rfl]))
 ·rw [if_neg h0]
  exact Ev.neg h0 (Ev.one (extend_j0S t l n s a z x ht hs true) (by rw [if_pos rfl]))
theorem spec_LogNew_ev : Ev (fun k => spec_LogNew.f k) (([] : List ByteArray), (headOf []).1, (headOf []).2) := by
 unfold spec_LogNew.f
 exact Ev.bind (spec_HeadOf_ev [] (by simp)) (Ev.now _)
theorem spec_StoreNew_ev : Ev (fun k => spec_StoreNew.f k) (([] : List ByteArray), (headOf []).1, (headOf []).2, ([] : List Int), (0 : Int)) := by
 unfold spec_StoreNew.f
 exact Ev.bind spec_LogNew_ev (Ev.now _)
def Good (t : List IHead) (l : List ByteArray) (N : Nat) (s : ByteArray) (x : List ByteArray) : Prop := headOk (N : Int) s = true ∧ hasHead t (N : Int) s = true ∧ isHead (l ++ x) (N : Int) s = true ∧ N = l.length + x.length
inductive Opened (t : List IHead) : List ByteArray → List Int → List ByteArray → List Int → Nat → Prop
 | stop {l : List ByteArray} {b : List Int} (h : ∀ N s x r, b = commitB N s x ++ r → headOk (N : Int) s = true → 1 ≤ x.length → x.length ≤ 200 → (∀ y ∈ x, y.size ≤ 1000000000) → ¬ Good t l N s x) : Opened t l b l [] 0
 | step {l : List ByteArray} {r : List Int} {L : List ByteArray} {m : List Int} {c N : Nat} {s : ByteArray} {x : List ByteArray} (hk : headOk (N : Int) s = true) (h1 : 1 ≤ x.length) (h2 : x.length ≤ 200) (hs : ∀ y ∈ x, y.size ≤ 1000000000) (hg : Good t l N s x) (k : Opened t (l ++ x) r L m c) : Opened t l (commitB N s x ++ r) L (commitB N s x ++ m) (c + 1)
theorem ext_good {t : List IHead} {l : List ByteArray} {n : Int} {z : ByteArray} {N : Nat} {s : ByteArray} {x : List ByteArray} (h1 : 1 ≤ x.length) (hg : Good t l N s x) : extOf t l n z (N : Int) s x = (l ++ x, (N : Int), s, 0) := by
 obtain ⟨g1, g2, g3, g4⟩ := hg
 unfold extOf
 have e : ((N : Int) == ((l.length + x.length : Nat) : Int)) = true := by rw [g4]; exact beq_self_eq_true _
 rw [if_pos (by rw [g1, e]; rfl), if_pos g2, if_neg (by omega), if_pos g3]
theorem ext_bad {t : List IHead} {l : List ByteArray} (n : Int) (z : ByteArray) {N : Nat} {s : ByteArray} {x : List ByteArray} (hg : ¬ Good t l N s x) : ∃ c, extOf t l n z (N : Int) s x = (l, n, z, c) ∧ c ≠ 0 := by
 unfold extOf
 by_cases h0 : (headOk (N : Int) s && ((N : Int) == ((l.length + x.length : Nat) : Int))) = true
 ·rw [if_pos h0]
  by_cases h1 : hasHead t (N : Int) s = true
  ·rw [if_pos h1]
   by_cases h2 : x.length = 0
   ·rw [if_pos h2]
    exact ⟨3, rfl, by decide⟩
   ·rw [if_neg h2]
    by_cases h3 : isHead (l ++ x) (N : Int) s = true
    ·rw [Bool.and_eq_true] at h0
     exact absurd ⟨h0.1, h1, h3, by have := eq_of_beq h0.2; omega⟩ hg
    ·rw [if_neg h3]
     exact ⟨4, rfl, by decide⟩
  ·rw [if_neg h1]
   exact ⟨2, rfl, by decide⟩
 ·rw [if_neg h0]
  exact ⟨1, rfl, by decide⟩
theorem logOk_head {l : List ByteArray} (h : l.length ≤ 200) : logOk l (headOf l).1 (headOf l).2 = true := by
 unfold logOk
 rw [if_pos (by omega)]
 simp
theorem commit_pos (N : Nat) (s : ByteArray) (x : List ByteArray) : 0 < (commitB N s x).length := by
 have := commitB_length N s x
 omega
theorem opened_nil (t : List IHead) (l : List ByteArray) : Opened t l [] l [] 0 := .stop (fun N s x r e _ _ _ _ _ => by
 have := commit_pos N s x
 have h2 : ([] : List Int).length = (commitB N s x ++ r).length := by rw [← e]
 rw [List.length_append, List.length_nil] at h2
 omega)
theorem opened_more {t : List IHead} {l : List ByteArray} {b : List Int} {L : List ByteArray} {m : List Int} {c : Nat} (o : Opened t l b L m c) : m = b → ∀ {N : Nat} {s : ByteArray} {x : List ByteArray}, 1 ≤ x.length → x.length ≤ 200 → (∀ y ∈ x, y.size ≤ 1000000000) → Good t L N s x → Opened t l (b ++ commitB N s x) (L ++ x) (b ++ commitB N s x) (c + 1) := by
 induction o with
 | @stop l bs h =>
  intro hm N s x h1 h2 h3 hg
  subst hm
  have := Opened.step hg.1 h1 h2 h3 hg (opened_nil t (l ++ x))
  rw [List.append_nil] at this
  rw [List.nil_append]
  exact this
 | @step l r L m c N' s' x' hk hx1 hx2 hsm hg' o ih =>
  intro hm N s x h1 h2 h3 hg
  have e := List.append_cancel_left hm
  have := Opened.step hk hx1 hx2 hsm hg' (ih e h1 h2 h3 hg)
  rw [← List.append_assoc] at this
  exact this
def Drawer (s : List Int) (i : Int) : Prop := 0 ≤ i ∧ i ≤ (s.length : Int) ∧ s.length ≤ 1048576
theorem mask255 (y : Int) : 0 ≤ Go.bits .and .i64 y 255 ∧ Go.bits .and .i64 y 255 ≤ 255 := by
 have h : (BitVec.ofInt 64 y &&& BitVec.ofInt 64 255).toNat ≤ 255 := by
  rw [BitVec.toNat_and]
  exact Nat.le_trans Nat.and_le_right (by decide)
 have e : Go.bits .and .i64 y 255 = IntKind.i64.wrap ((BitVec.ofInt 64 y &&& BitVec.ofInt 64 255).toNat : Int) := rfl
 generalize (BitVec.ofInt 64 y &&& BitVec.ofInt 64 255).toNat = m at h e
 rw [e, wraps63 _ (Int.natCast_nonneg _) (by omega)]
 omega
theorem l1Byte_ok {s : List Int} {i : Int} (h : Int) (hd : Drawer s i) : ∃ b i' h', spec_l1Byte.f s i h = some (b, i', h') ∧ 0 ≤ b ∧ b ≤ 255 ∧ Drawer s i' := by
 obtain ⟨h0, h1, h2⟩ := hd
 unfold spec_l1Byte.f
 by_cases hc : i < (s.length : Int)
 ·rw [if_pos hc, if_pos h0]
  exact ⟨_, _, _, rfl, (mask255 _).1, (mask255 _).2, by rw [w64 (by omega) (by omega)]; omega, by rw [w64 (by omega) (by omega)]; omega, h2⟩
 ·rw [if_neg hc]
  exact ⟨_, _, _, rfl, (mask255 _).1, (mask255 _).2, h0, h1, h2⟩
theorem l1Below_ok {s : List Int} {i : Int} (h n : Int) (hd : Drawer s i) (hn : 1 ≤ n) (hn2 : n ≤ 4294967296) : ∃ b i' h', spec_l1Below.f s i h n = some (b, i', h') ∧ 0 ≤ b ∧ b < n ∧ Drawer s i' := by
 unfold spec_l1Below.f
 rw [if_neg (by omega)]
 obtain ⟨b, i1, h1, e1, b0, b1, d1⟩ := l1Byte_ok h hd
 by_cases hc : n ≤ 256
 ·rw [if_pos hc, e1]
  simp only [Option.bind_some]
  rw [if_neg (by omega)]
  refine ⟨_, _, _, rfl, ?_, ?_, d1⟩
  ·rw [Int.tmod_eq_emod_of_nonneg b0]
   exact Int.emod_nonneg _ (by omega)
  ·rw [Int.tmod_eq_emod_of_nonneg b0]
   exact Int.emod_lt_of_pos _ (by omega)
 ·obtain ⟨b', i2, h2, e2, b0', b1', d2⟩ := l1Byte_ok h1 d1
  obtain ⟨b'', i3, h3, e3, b0'', b1'', d3⟩ := l1Byte_ok h2 d2
  rw [if_neg hc, e1]
  simp only [Option.bind_some]
  rw [e2]
  simp only [Option.bind_some]
  rw [e3]
  simp only [Option.bind_some]
  rw [if_neg (by omega)]
  have e : wrap64 ((wrap64 ((wrap64 (b * 65536)) + (wrap64 (b' * 256)))) + b'') = b * 65536 + b' * 256 + b'' := by
   rw [w64 (x := b * 65536) (by omega) (by omega), w64 (x := b' * 256) (by omega) (by omega), w64 (x := b * 65536 + b' * 256) (by omega) (by omega), w64 (by omega) (by omega)]
  rw [e]
  refine ⟨_, _, _, rfl, ?_, ?_, d3⟩
  ·rw [Int.tmod_eq_emod_of_nonneg (by omega)]
   exact Int.emod_nonneg _ (by omega)
  ·rw [Int.tmod_eq_emod_of_nonneg (by omega)]
   exact Int.emod_lt_of_pos _ (by omega)
theorem l1Int_ok {s : List Int} {i : Int} (h : Int) (l : List Int) (hd : Drawer s i) (hn : 1 ≤ l.length) (hn2 : l.length ≤ 4294967296) : ∃ x i' h', spec_l1Int.f s i h l = some (x, i', h') ∧ x ∈ l ∧ Drawer s i' := by
 obtain ⟨b, i1, h1, e1, b0, b1, d1⟩ := l1Below_ok h (l.length : Int) hd (by omega) (by omega)
 unfold spec_l1Int.f
 rw [e1]
 simp only [Option.bind_some]
 rw [if_pos b0, if_pos b1]
 obtain ⟨x, hx⟩ := get_some (l := l) (i := b.toNat) (by omega)
 refine ⟨_, _, _, rfl, ?_, d1⟩
 have : rd l b = x := by
  unfold rd
  simp [List.getD_eq_getElem?_getD, hx]
 rw [this]
 exact List.mem_of_getElem? hx
theorem l1Str_ok {s : List Int} {i : Int} (h : Int) (l : List ByteArray) (hd : Drawer s i) (hn : 1 ≤ l.length) (hn2 : l.length ≤ 4294967296) : ∃ x i' h', spec_l1Str.f s i h l = some (x, i', h') ∧ x ∈ l ∧ Drawer s i' := by
 obtain ⟨b, i1, h1, e1, b0, b1, d1⟩ := l1Below_ok h (l.length : Int) hd (by omega) (by omega)
 unfold spec_l1Str.f
 rw [e1]
 simp only [Option.bind_some]
 rw [if_pos b0, if_pos b1]
 obtain ⟨x, hx⟩ := get_some (l := l) (i := b.toNat) (by omega)
 refine ⟨_, _, _, rfl, ?_, d1⟩
 have : rdOf ByteArray.empty l b = x := by
  unfold rdOf
  simp [List.getD_eq_getElem?_getD, hx]
 rw [this]
 exact List.mem_of_getElem? hx
theorem l1New_ev (l : List Int) (hl : l.length ≤ 1048576) : ∃ h, Ev (fun k => spec_l1New.f k l) (l, 0, h) := by
 have main : ∀ (d : Nat) (i : Nat) (x : Int), i + d = l.length → ∃ h, Ev (fun k => spec_l1New.l0 k l x (i : Int)) (l, 0, h) := by
  intro d
  induction d with
  | zero =>
   intro i x hi
   refine ⟨x, Ev.step (f := fun _ => some (l, 0, x)) (fun k => ?_) (Ev.now _)⟩
   simp only [spec_l1New.l0]
   rw [if_neg (by omega)]
  | succ d ih =>
   intro i x hi
   by_cases hc : (i : Int) < 4000
   ·obtain ⟨h, e⟩ := ih (i + 1) (Go.bits .and .i64 (wrap64 ((wrap64 ((wrap64 (x * 137)) + (wrap64 (rd l i)))) + 11)) 1073741823) (by omega)
    refine ⟨h, Ev.step (fun k => ?_) e⟩
    simp only [spec_l1New.l0]
    rw [if_pos (by omega), if_pos hc, if_pos (by omega), w64 (x := (i : Int) + 1) (by omega) (by omega)]
    rfl
   ·refine ⟨x, Ev.step (f := fun _ => some (l, 0, x)) (fun k => ?_) (Ev.now _)⟩
    simp only [spec_l1New.l0]
    rw [if_pos (by omega), if_neg hc]
 exact main l.length 0 (wrap64 (372372 + (l.length : Int))) (by omega)
theorem Drawer.new {l : List Int} (hl : l.length ≤ 1048576) : Drawer l 0 := ⟨by omega, by omega, hl⟩
theorem l6List_ev {s : List Int} {i : Int} (h : Int) (hd : Drawer s i) : ∃ l i' h', Ev (fun k => spec_l6List.f k s i h) (l, i', h') ∧ Drawer s i' ∧ l.length ≤ 8 ∧ ∀ x ∈ l, x.size ≤ 3 := by
 obtain ⟨n, i1, h1, e1, hn, d1⟩ := l1Int_ok h ([0, 1, 2, 3, 4, 5, 7, 8, 6] : List Int) hd (by decide) (by decide)
 have main : ∀ (n : Nat) (acc : List ByteArray) (i h : Int), Drawer s i → acc.length + n ≤ 8 → (∀ x ∈ acc, x.size ≤ 3) → ∃ l i' h', Ev (fun k => spec_l6List.l0 k acc (n : Int) s i h) (l, i', h') ∧ Drawer s i' ∧ l.length ≤ 8 ∧ ∀ x ∈ l, x.size ≤ 3 := by
  intro n
  induction n with
  | zero =>
   intro acc i h hd ha hx
   refine ⟨acc, i, h, Ev.step (f := fun _ => some (acc, i, h)) (fun k => ?_) (Ev.now _), hd, by omega, hx⟩
   simp only [spec_l6List.l0]
   rw [if_neg (by omega)]
  | succ n ih =>
   intro acc i h hd ha hx
   obtain ⟨t, i2, h2, e2, hs, d2⟩ := l1Str_ok h ([(⟨#[]⟩ : ByteArray), (⟨#[97]⟩ : ByteArray), (⟨#[98]⟩ : ByteArray), (⟨#[120, 121, 122]⟩ : ByteArray)] : List ByteArray) hd (by simp) (by simp)
   have hss : t.size ≤ 3 := by
    simp only [List.mem_cons, List.not_mem_nil, or_false] at hs
    rcases hs with rfl | rfl | rfl | rfl <;> decide
   obtain ⟨l, i3, h3, e3, d3, hl3, hx3⟩ := ih (acc ++ [t]) i2 h2 d2 (by simp; omega) (fun x hm => by
    rcases List.mem_append.1 hm with hm | hm
    ·exact hx x hm
    ·rw [List.mem_singleton.1 hm]
     exact hss)
   refine ⟨l, i3, h3, Ev.step (fun k => ?_) e3, d3, hl3, hx3⟩
   simp only [spec_l6List.l0]
   rw [if_pos (by omega), e2]
   simp only [Option.bind_some]
   rw [if_pos (by omega), w64 (x := ((n + 1 : Nat) : Int) - 1) (by omega) (by omega)]
   congr 1
   omega
 have hn2 : 0 ≤ n ∧ n ≤ 8 := by
  simp only [List.mem_cons, List.not_mem_nil, or_false] at hn
  omega
 obtain ⟨l, i2, h2, e2, d2, hl2, hx2⟩ := main n.toNat [] i1 h1 d1 (by simp; omega) (by simp)
 rw [show ((n.toNat : Nat) : Int) = n from by omega] at e2
 refine ⟨l, i2, h2, ?_, d2, hl2, hx2⟩
 unfold spec_l6List.f
 rw [e1]
 exact e2
theorem l1Once_ok {s : List Int} {i : Int} (h n : Int) (hd : Drawer s i) (hn : 1 ≤ n) (hn2 : n ≤ 4294967296) : ∃ b i' h', spec_l1Once.f s i h n = some (b, i', h') ∧ Drawer s i' := by
 obtain ⟨b, i1, h1, e1, _, _, d1⟩ := l1Below_ok h n hd hn hn2
 unfold spec_l1Once.f
 rw [e1]
 exact ⟨_, _, _, rfl, d1⟩
def HeadIn (l : List ByteArray) (x : S37) : Prop := ∃ n, n ≤ l.length ∧ x = ⟨(headOf (l.take n)).1, (headOf (l.take n)).2⟩
def lastHead (l : List ByteArray) : S37 := ⟨(headOf l).1, (headOf l).2⟩
theorem l10Table_ev {s : List Int} {i : Int} (h : Int) (hd : Drawer s i) (l : List ByteArray) (hl : l.length ≤ 200) (hs : ∀ x ∈ l, x.size ≤ bigB) :
  ∃ T i' h', Ev (fun k => spec_l10Table.f k s i h l) (T ++ [lastHead l], i', h') ∧ Drawer s i' ∧ T.length ≤ l.length ∧ ∀ x ∈ T, HeadIn l x := by
 have main : ∀ (d n : Nat) (acc : List (S37)) (i h : Int), n + d = l.length → Drawer s i → acc.length ≤ n → (∀ x ∈ acc, HeadIn l x) →
   ∃ T i' h', Ev (fun k => spec_l10Table.l0 k l acc (n : Int) s i h) (T ++ [lastHead l], i', h') ∧ Drawer s i' ∧ T.length ≤ l.length ∧ ∀ x ∈ T, HeadIn l x := by
  intro d
  induction d with
  | zero =>
   intro n acc i h hn hd ha hx
   have hnl : n = l.length := by omega
   subst hnl
   obtain ⟨b, i1, h1, e1, d1⟩ := l1Once_ok h 3 hd (by decide) (by decide)
   have nx : wrap64 ((l.length : Int) + 1) = ((l.length + 1 : Nat) : Int) := by
    rw [w64 (by omega) (by omega)]
    omega
   have hH := spec_HeadOf_ev (l.take l.length) (mem_take_of hs)
   have fin : Ev (fun k => spec_l10Table.l0 k l (acc ++ [lastHead l]) ((l.length + 1 : Nat) : Int) s i1 h1) (acc ++ [lastHead l], i1, h1) := by
    refine Ev.step (f := fun _ => some (acc ++ [lastHead l], i1, h1)) (fun k => ?_) (Ev.now _)
    simp only [spec_l10Table.l0]
    rw [if_neg (by omega)]
   have hl2 : (⟨(headOf (l.take l.length)).1, (headOf (l.take l.length)).2⟩ : S37) = lastHead l := by rw [List.take_length]; rfl
   refine ⟨acc, i1, h1, ?_, d1, by omega, hx⟩
   refine Ev.step (fun k => by simp only [spec_l10Table.l0]; rw [e1]) ?_
   simp only [Option.bind_some]
   rw [nx]
   refine Ev.pos (by omega) ?_
   by_cases hb : b = true
   ·refine Ev.pos hb (Ev.pos trivial (Ev.pos (by omega) (Ev.bind hH (Ev.pos (by omega) ?_))))
    rw [hl2]
    exact fin
   ·refine Ev.neg hb (Ev.pos (by omega) (Ev.bind hH (Ev.pos (by omega) ?_)))
    rw [hl2]
    exact fin
  | succ d ih =>
   intro n acc i h hn hd ha hx
   obtain ⟨b, i1, h1, e1, d1⟩ := l1Once_ok h 3 hd (by decide) (by decide)
   have nx : wrap64 ((n : Int) + 1) = ((n + 1 : Nat) : Int) := by
    rw [w64 (by omega) (by omega)]
    omega
   have hH := spec_HeadOf_ev (l.take n) (mem_take_of hs)
   by_cases hb : b = true
   ·obtain ⟨T, i2, h2, e2, d2, hT, hx2⟩ := ih (n + 1) acc i1 h1 (by omega) d1 (by omega) hx
    refine ⟨T, i2, h2, ?_, d2, hT, hx2⟩
    refine Ev.step (fun k => by simp only [spec_l10Table.l0]; rw [e1]) ?_
    simp only [Option.bind_some]
    rw [nx]
    exact Ev.pos (by omega) (Ev.pos hb (Ev.neg (by omega) e2))
   ·obtain ⟨T, i2, h2, e2, d2, hT, hx2⟩ := ih (n + 1) (acc ++ [⟨(headOf (l.take n)).1, (headOf (l.take n)).2⟩]) i1 h1 (by omega) d1 (by simp; omega) (fun x hm => by
     rcases List.mem_append.1 hm with hm | hm
     ·exact hx x hm
     ·exact ⟨n, by omega, List.mem_singleton.1 hm⟩)
    refine ⟨T, i2, h2, ?_, d2, hT, hx2⟩
    refine Ev.step (fun k => by simp only [spec_l10Table.l0]; rw [e1]) ?_
    simp only [Option.bind_some]
    rw [nx]
    exact Ev.pos (by omega) (Ev.neg hb (Ev.pos (by omega) (Ev.bind hH (Ev.pos (by omega) e2))))
 exact main l.length 0 [] i h (by omega) hd (by simp) (by simp)
theorem few_total {l : List ByteArray} {n : Nat} (hx : ∀ x ∈ l, x.size ≤ n) : total l ≤ n * (l.length : Int) := by
 induction l with
 | nil => simp [total]
 | cons a l ih =>
  have h1 := hx a (by simp)
  have h2 := ih (fun x hm => hx x (by simp [hm]))
  rw [total_cons]
  simp only [List.length_cons]
  have : (n : Int) * ((l.length + 1 : Nat) : Int) = n * (l.length : Int) + n := by
   rw [Int.natCast_add, Int.mul_add]
   simp
  omega
theorem commit_small9 (N : Nat) {l : List ByteArray} {s : ByteArray} (hN : N ≤ 200) (hl : l.length ≤ 20) (hx : ∀ x ∈ l, x.size ≤ 3) (hs : s.size = 32) : (commitB N s l).length ≤ 1000 := by
 have w1 := commitB_length N s l
 have ht := few_total hx
 have hm := manyB_length l (fun x hm => by have := hx x hm; omega)
 have n0 := num_five (show N ≤ 1000000000 by omega)
 have n1 := num_five (show l.length ≤ 1000000000 by omega)
 have n2 := num_five (show s.size ≤ 1000000000 by omega)
 have hb : (bodyB N s l).length ≤ 500 := by
  unfold bodyB textsB
  rw [List.length_append, List.length_append, List.length_append, textB_length]
  omega
 have n3 := num_five (show (bodyB N s l).length ≤ 1000000000 by omega)
 omega
theorem specCommit_ev (t : List IHead) (ht : t.length ≤ 9223372036854775807) (l : List ByteArray) (b : List Int) (u : Int) (hl : l.length ≤ 200) (hs : ∀ y ∈ l, y.size ≤ bigB) (hb : b.length ≤ 60000) {x : List ByteArray} (h1 : 1 ≤ x.length) (h2 : (l ++ x).length ≤ 20) (hx : ∀ y ∈ x, y.size ≤ 3) :
  (Good t l (l ++ x).length (rootBy leafH (l ++ x)) x ∧ Ev (fun k => spec_l12Commit.f k l (headOf l).1 (headOf l).2 b u t ((l ++ x).length : Int) (rootBy leafH (l ++ x)) x) (l ++ x, ((l ++ x).length : Int), rootBy leafH (l ++ x), b ++ commitB (l ++ x).length (rootBy leafH (l ++ x)) x, u, 0)) ∨
  (∃ q, Ev (fun k => spec_l12Commit.f k l (headOf l).1 (headOf l).2 b u t ((l ++ x).length : Int) (rootBy leafH (l ++ x)) x) (l, (headOf l).1, (headOf l).2, b, u, q)) := by
 have hxb : ∀ y ∈ x, y.size ≤ bigB := fun y hy => by have := hx y hy; unfold bigB; omega
 have hxl : x.length ≤ 20 := by rw [List.length_append] at h2; omega
 have hsm := commit_small9 (l ++ x).length (by omega) hxl hx (root_32 (l ++ x))
 have hE := spec_Extend_ev t l (headOf l).1 (headOf l).2 ((l ++ x).length : Int) (rootBy leafH (l ++ x)) x ht (sizes_app hs hxb) (by omega)
 unfold extendOf at hE
 rw [if_pos (logOk_head hl)] at hE
 have hcp := spec_l12Copy_eq l (headOf l).1 (headOf l).2 b u (by omega) (by omega)
 by_cases hg : Good t l (l ++ x).length (rootBy leafH (l ++ x)) x
 ·left
  refine ⟨hg, ?_⟩
  rw [ext_good h1 hg] at hE
  have htt := few_total hx
  have hP := l12Put_val (l ++ x).length (rootBy leafH (l ++ x)) x (by omega) (by rw [root_32]; omega) (by omega) (by omega) (fun y hy => by have := hx y hy; omega)
  unfold spec_l12Commit.f
  rw [hcp]
  simp only [Option.bind_some]
  exact Ev.bind hE (Ev.pos rfl (Ev.bind hP (Ev.pos (by omega) (Ev.now _))))
 ·right
  obtain ⟨q, hq, hq0⟩ := ext_bad (headOf l).1 (headOf l).2 hg
  rw [hq] at hE
  refine ⟨q, ?_⟩
  unfold spec_l12Commit.f
  rw [hcp]
  simp only [Option.bind_some]
  exact Ev.bind hE (Ev.neg hq0 (Ev.now _))
structure Stored (t : List IHead) (all l : List ByteArray) (b : List Int) (u : Int) (d : Nat) : Prop where
 opened : ∃ c, Opened t [] b l b c
 begins : ∃ n, l = all.take n
 sure : 0 ≤ u ∧ u ≤ b.length
 bytes : InB b
 small : b.length ≤ 1000 * d
theorem sub_w {a b : Nat} (h : a < b) (hb : b ≤ 20) : wrap64 ((b : Int) - (a : Int)) = ((b - a : Nat) : Int) := by
 rw [w64 (by omega) (by omega)]
 omega
theorem add_w {a y : Nat} (h : a + 1 + y ≤ 20) : wrap64 (wrap64 ((a : Int) + 1) + (y : Int)) = ((a + 1 + y : Nat) : Int) := by
 rw [w64 (x := (a : Int) + 1) (by omega) (by omega), w64 (by omega) (by omega)]
 omega
theorem pred_w {d : Nat} (h : d ≤ 20) : wrap64 (((d + 1 : Nat) : Int) - 1) = (d : Int) := by
 rw [w64 (by omega) (by omega)]
 omega
theorem take_cut {all l : List ByteArray} {n m : Nat} (hn : l = all.take n) (hm : l.length ≤ m) : all.take m = l ++ (all.take m).drop l.length := by
 have hl' : all.take l.length = l := by
  conv => rhs; rw [hn]
  rw [hn, List.length_take]
  by_cases hc : n ≤ all.length
  ·rw [Nat.min_eq_left hc]
  ·rw [Nat.min_eq_right (by omega), List.take_of_length_le (show all.length ≤ n by omega), List.take_length]
 have : (all.take m).take l.length = all.take l.length := by rw [List.take_take, Nat.min_eq_left hm]
 conv => lhs; rw [← List.take_append_drop l.length (all.take m)]
 rw [this, hl']
set_option maxHeartbeats 4000000 in
theorem draw_l0 {s : List Int} (all : List ByteArray) (ha : all.length ≤ 20) (hx : ∀ y ∈ all, y.size ≤ 3) (t : List IHead) (ht : t.length ≤ 1000) : ∀ (d e : Nat) (i h : Int) (l : List ByteArray) (b : List Int) (u : Int), d + e ≤ 10 → Drawer s i → Stored t all l b u e →
  ∃ l' b' u' i' h', Ev (fun k => spec_l12Draw.l0 k all t (d : Int) s i h l (headOf l).1 (headOf l).2 b u) (l', (headOf l').1, (headOf l').2, b', u', all, t, i', h') ∧ Stored t all l' b' u' (d + e) ∧ Drawer s i' := by
 intro d
 induction d with
 | zero =>
  intro e i h l b u hd hr hS
  refine ⟨l, b, u, i, h, ?_, by rw [Nat.zero_add]; exact hS, hr⟩
  refine Ev.step (fun k => by simp only [spec_l12Draw.l0]; rfl) ?_
  exact Ev.neg (by omega) (Ev.now _)
 | succ d ih =>
  intro e i h l b u hd hr hS
  obtain ⟨n, hn⟩ := hS.begins
  obtain ⟨c, ho⟩ := hS.opened
  have hll : l.length ≤ all.length := by rw [hn, List.length_take]; omega
  have hsm := hS.small
  have hlx : ∀ y ∈ l, y.size ≤ 3 := fun y hy => hx y (by rw [hn] at hy; exact List.mem_of_mem_take hy)
  have hlb : ∀ y ∈ l, y.size ≤ bigB := fun y hy => by have := hlx y hy; unfold bigB; omega
  have d20 : d ≤ 20 := by omega
  refine Exists.elim (l1Once_ok h 3 hr (by decide) (by decide)) (fun q0 hq0 => ?_)
  by_cases hlt : (l.length : Int) < (all.length : Int)
  ·have hlt2 : l.length < all.length := by omega
   obtain ⟨y, i1, h1, e1, y0, y1, d1⟩ := l1Below_ok h ((all.length - l.length : Nat) : Int) hr (by omega) (by omega)
   obtain ⟨y, rfl⟩ := Int.eq_ofNat_of_zero_le y0
   have hm : l.length + 1 + y ≤ all.length := by omega
   have hm20 : l.length + 1 + y ≤ 20 := by omega
   have ecut := take_cut (m := l.length + 1 + y) hn (by omega)
   have ex : ∃ x, x = (all.take (l.length + 1 + y)).drop l.length := ⟨_, rfl⟩
   obtain ⟨x, hxe⟩ := ex
   rw [← hxe] at ecut
   have hxl : x.length = y + 1 := by
    rw [hxe, List.length_drop, List.length_take]
    omega
   have hxx : ∀ z ∈ x, z.size ≤ 3 := fun z hz => hx z (by rw [hxe] at hz; exact List.mem_of_mem_take (List.mem_of_mem_drop hz))
   have hcl : (l ++ x).length = l.length + 1 + y := by rw [List.length_append]; omega
   have hHead := spec_HeadOf_ev (l ++ x) (sizes_app hlb (fun z hz => by have := hxx z hz; unfold bigB; omega))
   rw [headOf_few (by omega)] at hHead
   have step : ∀ {L : List ByteArray} {N : Int} {Z : ByteArray} {B : List Int} {q : Int}, Ev (fun k => spec_l12Commit.f k l (headOf l).1 (headOf l).2 b u t ((l ++ x).length : Int) (rootBy leafH (l ++ x)) x) (L, N, Z, B, u, q) → N = (headOf L).1 → Z = (headOf L).2 → Stored t all L B u (e + 1) →
     ∃ l' b' u' i' h', Ev (fun k => spec_l12Draw.l0 k all t ((d + 1 : Nat) : Int) s i h l (headOf l).1 (headOf l).2 b u) (l', (headOf l').1, (headOf l').2, b', u', all, t, i', h') ∧ Stored t all l' b' u' (d + 1 + e) ∧ Drawer s i' := by
    intro L N Z B q hC hN hZ hSt
    subst hN hZ
    obtain ⟨o, i2, h2, e2, d2⟩ := l1Once_ok h1 3 d1 (by decide) (by decide)
    have fin : ∀ u', Stored t all L B u' (e + 1) → (o = true → u' = (B.length : Int)) → (o = false → u' = u) → ∃ l' b' u'' i' h', Ev (fun k => spec_l12Draw.l0 k all t ((d + 1 : Nat) : Int) s i h l (headOf l).1 (headOf l).2 b u) (l', (headOf l').1, (headOf l').2, b', u'', all, t, i', h') ∧ Stored t all l' b' u'' (d + 1 + e) ∧ Drawer s i' := by
     intro u' hSt' ho1 ho2
     obtain ⟨l', b', u'', i', h', j1, j2, j3⟩ := ih (e + 1) i2 h2 L B u' (by omega) d2 hSt'
     refine ⟨l', b', u'', i', h', ?_, by rw [show d + 1 + e = d + (e + 1) by omega]; exact j2, j3⟩
     refine Ev.step (fun k => by simp only [spec_l12Draw.l0]; rfl) ?_
     rw [sub_w hlt2 ha, pred_w d20]
     refine Ev.pos (by omega) (Ev.pos hlt (Ev.bind (Ev.const e1) ?_))
     simp only
     rw [add_w hm20, Int.toNat_natCast, Int.toNat_natCast, ← hxe, ecut]
     rw [hcl] at hHead hC
     refine Ev.pos (by omega) (Ev.pos (by omega) (Ev.bind hHead (Ev.pos (by omega) (Ev.pos (by omega) (Ev.bind hC (Ev.bind (Ev.const e2) ?_))))))
     cases o with
     | true =>
      rw [ho1 rfl] at j1
      exact Ev.pos rfl j1
     | false =>
      rw [ho2 rfl] at j1
      exact Ev.neg (by simp) j1
    cases o with
    | true => exact fin (B.length : Int) ⟨hSt.opened, hSt.begins, ⟨by omega, by omega⟩, hSt.bytes, hSt.small⟩ (fun _ => rfl) (fun h => nomatch h)
    | false => exact fin u hSt (fun h => nomatch h) (fun _ => rfl)
   rcases specCommit_ev t (by omega) l b u (by omega) hlb (by omega) (x := x) (by omega) (by omega) hxx with ⟨hg, hC⟩ | ⟨q, hC⟩
   ·have hh := headOf_few (l := l ++ x) (by omega)
    refine step hC (by rw [hh]) (by rw [hh]) ?_
    have hcs := commit_small9 (l ++ x).length (by omega) (l := x) (by omega) hxx (root_32 (l ++ x))
    refine ⟨⟨_, opened_more ho rfl (by omega) (by omega) (fun z hz => by have := hxx z hz; omega) hg⟩, ⟨l.length + 1 + y, ecut.symm⟩, ⟨hS.sure.1, by rw [List.length_append]; have := hS.sure.2; omega⟩, inB_app hS.bytes (commitB_inB _ _ _), by rw [List.length_append]; omega⟩
   ·exact step hC rfl rfl ⟨hS.opened, hS.begins, hS.sure, hS.bytes, by omega⟩
  ·obtain ⟨i2, h2, e2, d2⟩ := hq0
   have fin : ∀ u', Stored t all l b u' (e + 1) → (q0 = true → u' = (b.length : Int)) → (q0 = false → u' = u) → ∃ l' b' u'' i' h', Ev (fun k => spec_l12Draw.l0 k all t ((d + 1 : Nat) : Int) s i h l (headOf l).1 (headOf l).2 b u) (l', (headOf l').1, (headOf l').2, b', u'', all, t, i', h') ∧ Stored t all l' b' u'' (d + 1 + e) ∧ Drawer s i' := by
    intro u' hSt' ho1 ho2
    obtain ⟨l', b', u'', i', h', j1, j2, j3⟩ := ih (e + 1) i2 h2 l b u' (by omega) d2 hSt'
    refine ⟨l', b', u'', i', h', ?_, by rw [show d + 1 + e = d + (e + 1) by omega]; exact j2, j3⟩
    refine Ev.step (fun k => by simp only [spec_l12Draw.l0]; rfl) ?_
    rw [pred_w d20]
    refine Ev.pos (by omega) (Ev.neg hlt (Ev.bind (Ev.const e2) ?_))
    cases q0 with
    | true =>
     rw [ho1 rfl] at j1
     exact Ev.pos rfl j1
    | false =>
     rw [ho2 rfl] at j1
     exact Ev.neg (by simp) j1
   cases q0 with
   | true => exact fin (b.length : Int) ⟨hS.opened, hS.begins, ⟨by omega, by omega⟩, hS.bytes, by omega⟩ (fun _ => rfl) (fun h => nomatch h)
   | false => exact fin u ⟨hS.opened, hS.begins, hS.sure, hS.bytes, by omega⟩ (fun h => nomatch h) (fun _ => rfl)
theorem l12Draw_ev {s : List Int} {i : Int} (h : Int) (hd : Drawer s i) : ∃ l b u all t i' h', Ev (fun k => spec_l12Draw.f k s i h) (l, (headOf l).1, (headOf l).2, b, u, all, t, i', h') ∧ Stored t all l b u 3 ∧ Drawer s i' ∧ all.length ≤ 9 ∧ 1 ≤ all.length ∧ (∀ x ∈ all, x.size ≤ 3) ∧ t.length ≤ 1000 := by
 obtain ⟨a, i1, h1, e1, d1, ha, hx⟩ := l6List_ev h hd
 have hx2 : ∀ x ∈ a ++ [(⟨#[113]⟩ : ByteArray)], x.size ≤ 3 := fun x hm => by
  rcases List.mem_append.1 hm with hm | hm
  ·exact hx x hm
  ·rw [List.mem_singleton.1 hm]
   decide
 have hal : (a ++ [(⟨#[113]⟩ : ByteArray)]).length = a.length + 1 := by simp
 obtain ⟨T, i2, h2, e2, d2, hT, _⟩ := l10Table_ev h1 d1 (a ++ [(⟨#[113]⟩ : ByteArray)]) (by omega) (fun x hm => by have := hx2 x hm; unfold bigB; omega)
 have hTl : (T ++ [lastHead (a ++ [(⟨#[113]⟩ : ByteArray)])]).length = T.length + 1 := by simp
 obtain ⟨n, i3, h3, e3, n0, n1, d3⟩ := l1Below_ok h2 4 d2 (by decide) (by decide)
 obtain ⟨n, rfl⟩ := Int.eq_ofNat_of_zero_le n0
 obtain ⟨l', b', u', i', h', j1, j2, j3⟩ := draw_l0 (s := s) (a ++ [(⟨#[113]⟩ : ByteArray)]) (by omega) hx2 (T ++ [lastHead (a ++ [(⟨#[113]⟩ : ByteArray)])]) (by omega) n 0 i3 h3 [] [] 0 (by omega) d3 ⟨⟨0, opened_nil _ _⟩, ⟨0, rfl⟩, ⟨by omega, by simp⟩, by simp [InB], by simp⟩
 refine ⟨l', b', u', _, _, i', h', ?_, ⟨j2.opened, j2.begins, j2.sure, j2.bytes, by have := j2.small; omega⟩, j3, by omega, by omega, hx2, by omega⟩
 unfold spec_l12Draw.f
 refine Ev.bind e1 ?_
 simp only
 exact Ev.pos (by omega) (Ev.bind (Ev.now _) (Ev.bind e2 (Ev.bind spec_StoreNew_ev (Ev.bind (Ev.const e3) j1))))
end Go.Proofs.YtnlndmoecljicaaGreat.Q
end
