-- Joined and shortened by a program of this session (wip/tools/shakecopy.py): the words of the print, texts of pp.sh and of mine.
import Derived.Test.YtjnnglphdaemaaaKFnExtended6
import Derived.Test.YtjnnglphdaemaaaRows
import Derived.WalkKit
import Derived.ProofKit
import Derived.OpenShut
import Derived.ShutString
import Derived.ChangeOld
import Derived.Below
import Derived.SizedLaws
import Derived.Carry
section
-- Written by a program of this session (wip/tools/pp.sh) over the print of the kit.
namespace Go.Proofs.Ytjnnglphdaemaaa.Q
open Go.RowKit Go.Proofs.YtjnnglphdaemaaaW.PrintWords Go.Proofs.YtjnnglphdaemaaaW.PrintLast Go.Proofs.YtjnnglphdaemaaaW.PrintMore
attribute [local go_sem] max2_int min2_int max_two min_two max_three min_three max_four min_four   -- for this text's walks alone
set_option linter.unusedVariables false
set_option linter.unusedSimpArgs false
attribute [local go_sem high] eqA28
def laws_FnExtended.j0 : Nat → List (S28) → List ByteArray → Int → Int → Bool → List ByteArray → Int → ByteArray → Int → ByteArray → List ByteArray → Int → ByteArray → Option (Bool)
 | 0, _, _, _, _, _, _, _, _, _, _, _, _, _ => none
 | k + 1, x4, x6, x8, x10, x42, x616000, x616001, x616002, x617000, x617001, x624000, x624001, x624002 => if x42 = true then (if x8 = x10 then ((laws_sameTexts.f k x624000 x616000).bind fun t631 => (if t631 = true then (some (x624001 == x616001 && (x624002.toList == x616002.toList))) else (none))) else (none)) else ((impl_LogOk.f k x624000 x624001 x624002).bind fun t632 => (if t632 = true then ((impl_IsSigned.f k x4 x624001 x624002).bind fun t633 => (if t633 = true then (if (x624001 == x617000 && (x624002.toList == x617001.toList)) = true then ((impl_HeadOf.f k x624000).bind fun bt634 => (if (bt634.1 == x617000 && (bt634.2.toList == x617001.toList)) = true then ((some (([] : List ByteArray) : List ByteArray)).bind fun y636 => (if y636.length + x616000.length < 8796093022208 then ((some (y636 ++ x616000 : List ByteArray)).bind fun y639 => (if y639.length + x6.length < 8796093022208 then ((laws_sameTexts.f k x624000 (y639 ++ x6)).bind fun t645 => (if t645 = true then (some (decide ((x6.length : Int) > 0))) else (none))) else (none))) else (none))) else (none))) else (none)) else (none))) else (none)))
def laws_FnExtended.f (k : Nat) (l0 : List Int) : Option (Bool) := (laws_big.f l0).bind fun t601 => (if t601 = true then (some true) else ((spec_DrawExtend.f k l0).bind fun bt602 => ((impl_Extend.f k bt602.1 bt602.2.1 bt602.2.2.1 bt602.2.2.2.1 bt602.2.2.2.2.1 bt602.2.2.2.2.2.1 bt602.2.2.2.2.2.2).bind fun bt617 => ((spec_Extend.f k bt602.1 bt602.2.1 bt602.2.2.1 bt602.2.2.2.1 bt602.2.2.2.2.1 bt602.2.2.2.2.2.1 bt602.2.2.2.2.2.2).bind fun bt624 => (if bt617.2.2.2 = bt624.2.2.2 then (laws_FnExtended.j0 k bt602.2.2.2.1 bt602.2.2.2.2.2.2 bt617.2.2.2 bt624.2.2.2 (bt617.2.2.2 != 0) bt602.1 bt602.2.1 bt602.2.2.1 bt602.2.2.2.2.1 bt602.2.2.2.2.2.1 bt617.1 bt617.2.1 bt617.2.2.1) else (laws_FnExtended.j0 k bt602.2.2.2.1 bt602.2.2.2.2.2.2 bt617.2.2.2 bt624.2.2.2 true bt602.1 bt602.2.1 bt602.2.2.1 bt602.2.2.2.2.1 bt602.2.2.2.2.2.1 bt617.1 bt617.2.1 bt617.2.2.1))))))
def laws_FnExtended.T8 : Bool × List (List Nat × List Nat) := (true, [([], []), ([0], [0]), ([1, 1], [1]), ([2], [2]), ([2], [2]), ([4, 2], [2, 4]), ([3, 5, 2, 2], [2, 3, 5]), ([2, 6], [2, 6]), ([7, 6], [7]), ([8], [8]), ([9, 8], [8, 9]), ([8], [8]), ([10, 11, 8], [8, 10, 11]), ([8, 12], [8, 12]), ([13, 8], [13]), ([14], [14]), ([15, 14], [14, 15]), ([16, 14, 14], [14, 16]), ([14], [14]), ([17, 18, 14], [14, 17, 18]), ([14, 19], [14, 19]), ([20, 17], [20]), ([21], [21]), ([22, 21], [21, 22]), ([21], [21]), ([21], [21]), ([25, 21], [21, 25]), ([24, 26, 21, 21], [21, 24, 26]), ([21], [21]), ([27, 28, 27, 21], [21, 27, 28]), ([23, 29, 29, 21], [21, 23, 29]), ([21, 30], [21, 30]), ([31, 30], [31]), ([32], [32]), ([33, 32], [32, 33]), ([34, 32], [32, 34]), ([32, 35], [32, 35]), ([36, 32, 0, 1, 2, 3, 4, 5, 6, 7, 8, 9, 10, 11, 12, 13, 14, 15, 16, 17, 18, 19, 20, 21, 22, 23, 24, 25, 26, 27, 28, 29, 30, 31, 32, 33, 34, 35, 36], [36])])
def laws_FnExtended.B8 : List Nat := [0, 1, 3, 7, 7, 23, 63, 127, 255, 511, 1023, 511, 4095, 8191, 16383, 32767, 65535, 131071, 32767, 524287, 1048575, 2097151, 4194303, 8388607, 4194303, 4194303, 37748735, 121634815, 4194303, 524287999, 1073741823, 2147483647, 4294967295, 8589934591, 17179869183, 34359738367, 68719476735, 137438953471]
theorem laws_FnExtended.tab8 : rtab .any (opsOf Try.f4 8) = laws_FnExtended.T8 := by kernel_rfl
theorem laws_FnExtended.bits8 : waitsOk laws_FnExtended.T8.2 laws_FnExtended.B8 = true := by kernel_rfl
set_option maxHeartbeats 8000000 in
set_option maxRecDepth 100000 in
theorem laws_FnExtended.calls (k : Nat) (A0 : Option Addr) (c0 : Nat) (l0 : List Int) (r : Bool) (w : World) (hr0 : Kd.C (Kd.int .u8) w A0 l0.length l0) (hc0 : l0.length ≤ c0) (h : laws_FnExtended.f k l0 = some r) :
  Calls Try.prog 4 #[.slice A0 l0.length c0] w fun e w' => e = .returned (.bool r) ∧ Below w.heap.size w w' := by
 have hu31 := Try.underlying31
 have hu28 := Try.underlying28
 have HR0 := Aside0.mk hr0
 have HC0 := Aside0.mk hc0
 clear hr0 hc0
 have HB := Aside0.mk (Below.refl w.heap.size w)
 have H : ((laws_big.f l0).bind fun t601 => (if t601 = true then (some true) else ((spec_DrawExtend.f k l0).bind fun bt602 => ((impl_Extend.f k bt602.1 bt602.2.1 bt602.2.2.1 bt602.2.2.2.1 bt602.2.2.2.2.1 bt602.2.2.2.2.2.1 bt602.2.2.2.2.2.2).bind fun bt617 => ((spec_Extend.f k bt602.1 bt602.2.1 bt602.2.2.1 bt602.2.2.2.1 bt602.2.2.2.2.1 bt602.2.2.2.2.2.1 bt602.2.2.2.2.2.2).bind fun bt624 => (if bt617.2.2.2 = bt624.2.2.2 then (laws_FnExtended.j0 k bt602.2.2.2.1 bt602.2.2.2.2.2.2 bt617.2.2.2 bt624.2.2.2 (bt617.2.2.2 != 0) bt602.1 bt602.2.1 bt602.2.2.1 bt602.2.2.2.2.1 bt602.2.2.2.2.2.1 bt617.1 bt617.2.1 bt617.2.2.1) else (laws_FnExtended.j0 k bt602.2.2.2.1 bt602.2.2.2.2.2.2 bt617.2.2.2 bt624.2.2.2 true bt602.1 bt602.2.1 bt602.2.2.1 bt602.2.2.2.2.1 bt602.2.2.2.2.2.1 bt617.1 bt617.2.1 bt617.2.2.1))))))) = some r := h
 clear h
 replace H := bi_ H; obtain ⟨t601, A2, H⟩ := H
 replace H := itb_ H; obtain ⟨rfl, H⟩ | ⟨rfl, H⟩ := H
 ·obtain rfl := Option.some.inj H
  go_enter Try.func4, Try.ntmps4
  go_wp2_with (first | ((with_reducible refine gq_ 10 12 ?_); refine gc_ 12 Try.func10 (laws_big.calls _ _ l0 true _ (cr_ HR0.out) HC0.out A2.out) ?_; rintro e w' ⟨rfl, ⟨nd, rfl⟩⟩; refine ⟨_, rfl, ?_⟩))
  go_ret
  exact ⟨e2_, bw_ HB⟩
 ·replace H := bi_ H; obtain ⟨⟨t602, t605, t606, t607, t610, t611, t612⟩, A4, H⟩ := H
  dsimp only at H
  replace H := bi_ H; obtain ⟨⟨t617, t620, t621, t622⟩, A5, H⟩ := H
  dsimp only at H
  replace H := bi_ H; obtain ⟨⟨t624, t627, t628, t629⟩, A6, H⟩ := H
  dsimp only at H
  have HC7 := Aside0.mk H
  clear H
  go_enter Try.func4, Try.ntmps4
  go_upto_region 6 with (first | ((with_reducible refine gq_ 10 12 ?_); refine gc_ 12 Try.func10 (laws_big.calls _ _ l0 false _ (cr_ HR0.out) HC0.out A2.out) ?_; rintro e w' ⟨rfl, ⟨nd, rfl⟩⟩; refine ⟨_, rfl, ?_⟩) | ((with_reducible refine gq_ 20 15 ?_); refine gc_ 15 Try.func20 (spec_DrawExtend.calls k _ _ l0 t602 t605 t606 t607 t610 t611 t612 _ (cr_ HR0.out) HC0.out A4.out) ?_; rintro e w8 ⟨v603, v608, v613, rfl, ho0, ho1, ho2, hb⟩; refine ⟨_, rfl, ?_⟩; have HO604 := Aside0.mk (Kd.R_lower ho0 (sz_ HB)); have HO609 := Aside0.mk (Kd.R_lower ho1 (sz_ HB)); have HO614 := Aside0.mk (Kd.R_lower ho2 (sz_ HB)); replace HB := ss_ HB hb; clear hb ho0 ho1 ho2) | ((with_reducible refine gd_ 3 ?_); (try (refine gate_guard (by rfl) ?_; dsimp only)); refine bx_ 3 31 #[.slice none 0 0, .int .i64 0, .string (⟨#[]⟩ : ByteArray)] ?_; intro gb615 hg w9 hbox hb; replace HO604 := rb_ HO604 hb; replace HO609 := rb_ HO609 hb; replace HO614 := rb_ HO614 hb; have BK615 := Aside0.mk hbox; have GW615 := gg_ hg HB; have GE615 := GW615; replace HB := ss_ HB hb; clear hb hbox hg) | ((with_reducible refine gd_ 5 ?_); (try (refine gate_guard (by rfl) ?_; dsimp only)); refine bx_ 5 28 #[.int .i64 0, .string (⟨#[]⟩ : ByteArray)] ?_; intro gb616 hg w10 hbox hb; replace HO604 := rb_ HO604 hb; replace HO609 := Aside0.mk (Kd.R_below (Kd.R_elderB (kr_ HO609.out) gb616 (Nat.le_of_eq hg.symm)) hb); replace HO614 := rb_ HO614 hb; have BK616 := Aside0.mk hbox; have GW616 := gg_ hg HB; have GE616 := GW616; replace HB := ss_ HB hb; have NB615_616 := Aside0.mk ((by rw [hg]; exact Nat.ne_of_lt (blk_lt (kb_ BK615.out)) : gb615 ≠ gb616)); have NB616_615 := Aside0.mk ((by rw [hg]; exact Nat.ne_of_gt (blk_lt (kb_ BK615.out)) : gb616 ≠ gb615)); replace BK615 := kl_ BK615 hb; clear hb hbox hg; obtain ⟨Ao11, co11, eo11⟩ := Kd.R_slice HO604.out; subst eo11; have hnb12 := NB615_616.out; have hnc12 := NB616_615.out; have hz13 := cz3_ BK615; have hz14 := cz2_ BK616; obtain ⟨Ao15, co15, eo15⟩ := Kd.R_slice HO609.out; subst eo15; obtain ⟨Ao16, co16, eo16⟩ := Kd.R_slice HO614.out; subst eo16) | ((with_reducible refine gk_ 13 ?_); refine gl_ 25 Try.func13 #[.agg #[.slice Ao11 t602.length co11, .int .i64 t605, .string t606], .slice Ao15 t607.length co15, .agg #[.int .i64 t610, .string t611], .slice Ao16 t612.length co16] ?_; (with_reducible refine (impl_Extend.calls k _ _ t602 t605 t606 _ _ t607 t610 t611 _ _ t612 t617 t620 t621 t622 _ ?side1 ?side2 ?side3 ?side4 ?side5 ?side6 A5.out).mono ?_); (case side1 => refine (Kd.R_reads' (e := 9) (base := w.heap.size) (ok := fun k_ => some k_ ≠ (.slice Ao16 t612.length co16 : Value).ownBlock) (n := t602.length) (c := co11) ?_).2.2; exact (kr_ ((Kd.R_mono (Kd.R_mono (Kd.R_far (p := ⟨gb616, 1, none⟩) (Kd.R_far (p := ⟨gb616, 0, none⟩) (Kd.R_far (p := ⟨gb615, 2, none⟩) (Kd.R_far (p := ⟨gb615, 1, none⟩) (Kd.R_far (p := ⟨gb615, 0, none⟩) (Kd.R_types (Kd.R_types HO604.out BK615.out (by decide)) BK616.out (by decide)) (fun _ hk => hk.1.2) (.slice Ao11 t602.length co11)) (fun _ hk => hk.1.2) (.int .i64 t605)) (fun _ hk => hk.1.2) (.string t606)) (fun _ hk => hk.2) (.int .i64 t610)) (fun _ hk => hk.2) (.string t611)) (fun _ h_ => h_.1)) (fun _ h_ => h_.1))))); (case side2 => exact (cl_ HO604)); (case side3 => refine (Kd.R_reads' (e := 28) (base := w.heap.size) (ok := fun k_ => (True ∧ k_ ≠ gb616)) (n := t607.length) (c := co15) ?_).2.2; exact (kr_ ((Kd.R_mono (Kd.R_mono (Kd.R_far (p := ⟨gb616, 1, none⟩) (Kd.R_far (p := ⟨gb616, 0, none⟩) (Kd.R_far (p := ⟨gb615, 2, none⟩) (Kd.R_far (p := ⟨gb615, 1, none⟩) (Kd.R_far (p := ⟨gb615, 0, none⟩) (Kd.R_mono (Kd.R_types HO609.out BK615.out (by decide)) (fun k_ hk => (⟨hk, hk.1.2⟩ : _ ∧ k_ ≠ gb616))) (fun _ hk => hk.1.2) (.slice Ao11 t602.length co11)) (fun _ hk => hk.1.2) (.int .i64 t605)) (fun _ hk => hk.1.2) (.string t606)) (fun _ hk => hk.2) (.int .i64 t610)) (fun _ hk => hk.2) (.string t611)) (fun _ h_ => h_.1)) (fun _ h_ => h_.1))))); (case side4 => exact (cl_ HO609)); (case side5 => refine (Kd.R_reads' (e := 9) (base := w.heap.size) (ok := fun k_ => some k_ ≠ (.slice Ao11 t602.length co11 : Value).ownBlock) (n := t612.length) (c := co16) ?_).2.2; exact (kr_ ((Kd.R_mono (Kd.R_mono (Kd.R_far (p := ⟨gb616, 1, none⟩) (Kd.R_far (p := ⟨gb616, 0, none⟩) (Kd.R_far (p := ⟨gb615, 2, none⟩) (Kd.R_far (p := ⟨gb615, 1, none⟩) (Kd.R_far (p := ⟨gb615, 0, none⟩) (Kd.R_types (Kd.R_types HO614.out BK615.out (by decide)) BK616.out (by decide)) (fun _ hk => hk.1.2) (.slice Ao11 t602.length co11)) (fun _ hk => hk.1.2) (.int .i64 t605)) (fun _ hk => hk.1.2) (.string t606)) (fun _ hk => hk.2) (.int .i64 t610)) (fun _ hk => hk.2) (.string t611)) (fun _ h_ => h_.1)) (fun _ h_ => h_.1))))); (case side6 => exact (cl_ HO614)); rintro e w17 ⟨v618, rfl, ho0, hb⟩; refine ⟨_, rfl, ?_⟩; replace HO609 := Aside0.mk (Kd.R_below (kr_ ((Kd.R_mono (Kd.R_mono (Kd.R_far (p := ⟨gb616, 1, none⟩) (Kd.R_far (p := ⟨gb616, 0, none⟩) (Kd.R_far (p := ⟨gb615, 2, none⟩) (Kd.R_far (p := ⟨gb615, 1, none⟩) (Kd.R_far (p := ⟨gb615, 0, none⟩) (Kd.R_mono (Kd.R_types HO609.out BK615.out (by decide)) (fun k_ hk => (⟨hk, hk.1.2⟩ : _ ∧ k_ ≠ gb616))) (fun _ hk => hk.1.2) (.slice Ao11 t602.length co11)) (fun _ hk => hk.1.2) (.int .i64 t605)) (fun _ hk => hk.1.2) (.string t606)) (fun _ hk => hk.2) (.int .i64 t610)) (fun _ hk => hk.2) (.string t611)) (fun _ h_ => h_.1)) (fun _ h_ => h_.1)))) hb); have HO619 := Aside0.mk (Kd.R_lower (Kd.R_new' (Kd.R_new' ho0 (Kd.R_lt (kr_ ((Kd.R_mono (Kd.R_mono (Kd.R_far (p := ⟨gb616, 1, none⟩) (Kd.R_far (p := ⟨gb616, 0, none⟩) (Kd.R_far (p := ⟨gb615, 2, none⟩) (Kd.R_far (p := ⟨gb615, 1, none⟩) (Kd.R_far (p := ⟨gb615, 0, none⟩) (Kd.R_types (Kd.R_types HO604.out BK615.out (by decide)) BK616.out (by decide)) (fun _ hk => hk.1.2) (.slice Ao11 t602.length co11)) (fun _ hk => hk.1.2) (.int .i64 t605)) (fun _ hk => hk.1.2) (.string t606)) (fun _ hk => hk.2) (.int .i64 t610)) (fun _ hk => hk.2) (.string t611)) (fun _ h_ => h_.1)) (fun _ h_ => h_.1)))))) (Kd.R_lt (kr_ ((Kd.R_mono (Kd.R_mono (Kd.R_far (p := ⟨gb616, 1, none⟩) (Kd.R_far (p := ⟨gb616, 0, none⟩) (Kd.R_far (p := ⟨gb615, 2, none⟩) (Kd.R_far (p := ⟨gb615, 1, none⟩) (Kd.R_far (p := ⟨gb615, 0, none⟩) (Kd.R_types (Kd.R_types HO614.out BK615.out (by decide)) BK616.out (by decide)) (fun _ hk => hk.1.2) (.slice Ao11 t602.length co11)) (fun _ hk => hk.1.2) (.int .i64 t605)) (fun _ hk => hk.1.2) (.string t606)) (fun _ hk => hk.2) (.int .i64 t610)) (fun _ hk => hk.2) (.string t611)) (fun _ h_ => h_.1)) (fun _ h_ => h_.1)))))) (sz_ HB)); replace HO604 := Aside0.mk (Kd.R_elder' (kr_ ((Kd.R_mono (Kd.R_mono (Kd.R_far (p := ⟨gb616, 1, none⟩) (Kd.R_far (p := ⟨gb616, 0, none⟩) (Kd.R_far (p := ⟨gb615, 2, none⟩) (Kd.R_far (p := ⟨gb615, 1, none⟩) (Kd.R_far (p := ⟨gb615, 0, none⟩) (Kd.R_types (Kd.R_types HO604.out BK615.out (by decide)) BK616.out (by decide)) (fun _ hk => hk.1.2) (.slice Ao11 t602.length co11)) (fun _ hk => hk.1.2) (.int .i64 t605)) (fun _ hk => hk.1.2) (.string t606)) (fun _ hk => hk.2) (.int .i64 t610)) (fun _ hk => hk.2) (.string t611)) (fun _ h_ => h_.1)) (fun _ h_ => h_.1)))) (Kd.R_base ho0) hb); replace HO614 := Aside0.mk (Kd.R_elder' (kr_ ((Kd.R_mono (Kd.R_mono (Kd.R_far (p := ⟨gb616, 1, none⟩) (Kd.R_far (p := ⟨gb616, 0, none⟩) (Kd.R_far (p := ⟨gb615, 2, none⟩) (Kd.R_far (p := ⟨gb615, 1, none⟩) (Kd.R_far (p := ⟨gb615, 0, none⟩) (Kd.R_types (Kd.R_types HO614.out BK615.out (by decide)) BK616.out (by decide)) (fun _ hk => hk.1.2) (.slice Ao11 t602.length co11)) (fun _ hk => hk.1.2) (.int .i64 t605)) (fun _ hk => hk.1.2) (.string t606)) (fun _ hk => hk.2) (.int .i64 t610)) (fun _ hk => hk.2) (.string t611)) (fun _ h_ => h_.1)) (fun _ h_ => h_.1)))) (Kd.R_base ho0) hb); replace BK615 := kp_ BK615 hb; replace BK616 := kp_ BK616 hb; replace HB := ss_ HB hb; clear hb ho0) | ((with_reducible refine gd_ 7 ?_); (try (refine gate_guard (by rfl) ?_; dsimp only)); refine bx_ 7 31 #[.slice none 0 0, .int .i64 0, .string (⟨#[]⟩ : ByteArray)] ?_; intro gb623 hg w18 hbox hb; replace HO604 := rb_ HO604 hb; replace HO609 := rb_ HO609 hb; replace HO614 := rb_ HO614 hb; replace HO619 := rb_ HO619 hb; have BK623 := Aside0.mk hbox; have GW623 := gg_ hg HB; have GE623 := GW623; replace HB := ss_ HB hb; have NB615_623 := nla_ hg BK615; have NB623_615 := nga_ hg BK615; replace BK615 := kl_ BK615 hb; have NB616_623 := nla_ hg BK616; have NB623_616 := nga_ hg BK616; replace BK616 := kl_ BK616 hb; clear hb hbox hg; obtain ⟨Ao19, co19, eo19⟩ := Kd.R_slice HO619.out; subst eo19; have hnb20 := NB623_615.out; have hnc20 := NB615_623.out; have hnb21 := NB623_616.out; have hnc21 := NB616_623.out; have hz22 := cz3_ BK623; have hz23 := cz3_ BK615; have hz24 := cz2_ BK616) | ((with_reducible refine gq_ 21 33 ?_); refine gc_ 33 Try.func21 (spec_Extend.calls k _ _ t602 t605 t606 _ _ t607 t610 t611 _ _ t612 t624 t627 t628 t629 _ (chf_ HO604 BK623) (cl_ HO604) (chf_ HO609 BK623) (cl_ HO609) (chf_ HO614 BK623) (cl_ HO614) A6.out) ?_; rintro e w25 ⟨v625, rfl, ho0, hb⟩; refine ⟨_, rfl, ?_⟩; replace HO609 := rbf_ HO609 BK623 hb; have HO626 := Aside0.mk (Kd.R_lower (Kd.R_new' (Kd.R_new' (Kd.R_new' ho0 (lf_ HO604 BK623)) (lf_ HO614 BK623)) (lf_ HO619 BK623)) (sz_ HB)); replace HO604 := ref_ HO604 BK623 ho0 hb; replace HO614 := ref_ HO614 BK623 ho0 hb; replace HO619 := ref_ HO619 BK623 ho0 hb; replace BK615 := kp_ BK615 hb; replace BK616 := kp_ BK616 hb; replace BK623 := kp_ BK623 hb; replace HB := ss_ HB hb; clear hb ho0) | ((with_reducible refine gd_ 9 ?_); (try (refine gate_guard (by rfl) ?_; dsimp only)); refine bx_ 9 31 #[.slice none 0 0, .int .i64 0, .string (⟨#[]⟩ : ByteArray)] ?_; intro gb630 hg w26 hbox hb; replace HO604 := rb_ HO604 hb; replace HO609 := rb_ HO609 hb; replace HO614 := rb_ HO614 hb; replace HO619 := rb_ HO619 hb; replace HO626 := rb_ HO626 hb; have BK630 := Aside0.mk hbox; have GW630 := gg_ hg HB; have GE630 := GW630; replace HB := ss_ HB hb; have NB615_630 := nla_ hg BK615; have NB630_615 := nga_ hg BK615; replace BK615 := kl_ BK615 hb; have NB616_630 := nla_ hg BK616; have NB630_616 := nga_ hg BK616; replace BK616 := kl_ BK616 hb; have NB623_630 := nla_ hg BK623; have NB630_623 := nga_ hg BK623; replace BK623 := kl_ BK623 hb; clear hb hbox hg; obtain ⟨Ao27, co27, eo27⟩ := Kd.R_slice HO626.out; subst eo27; have hnb28 := NB630_615.out; have hnc28 := NB615_630.out; have hnb29 := NB630_616.out; have hnc29 := NB616_630.out; have hnb30 := NB630_623.out; have hnc30 := NB623_630.out; have hz31 := cz3_ BK630))
  (try simp only [Act.put, List.setIfInBounds_toArray, List.set_cons_zero, List.set_cons_succ])
  go_cut [42] (fun v42 wc => ∃ (kq : Nat) (x42_6 : Bool), v42 = .bool x42_6 ∧ Aside0 (laws_FnExtended.j0 kq t607 t612 t622 t629 x42_6 t602 t605 t606 t610 t611 t617 t620 t621 = some r) ∧ Aside0 (kq ≤ k) ∧ Aside0 (Kd.R k28 28 wc w.heap.size (fun k_ => k_ ≠ gb616) (.slice Ao15 t607.length co15) t607) ∧ Aside0 (Kd.R Kd.string 9 wc w.heap.size (fun k_ => some k_ ≠ ((.slice Ao11 t602.length co11) : Value).ownBlock ∧ some k_ ≠ ((.slice Ao19 t617.length co19) : Value).ownBlock ∧ some k_ ≠ ((.slice Ao27 t624.length co27) : Value).ownBlock) (.slice Ao16 t612.length co16) t612) ∧ Aside0 (Kd.R Kd.string 9 wc w.heap.size (fun k_ => some k_ ≠ ((.slice Ao16 t612.length co16) : Value).ownBlock ∧ some k_ ≠ ((.slice Ao19 t617.length co19) : Value).ownBlock ∧ some k_ ≠ ((.slice Ao27 t624.length co27) : Value).ownBlock) (.slice Ao11 t602.length co11) t602) ∧ Aside0 (Kd.R Kd.string 9 wc w.heap.size (fun k_ => some k_ ≠ ((.slice Ao16 t612.length co16) : Value).ownBlock ∧ some k_ ≠ ((.slice Ao11 t602.length co11) : Value).ownBlock ∧ some k_ ≠ ((.slice Ao27 t624.length co27) : Value).ownBlock) (.slice Ao19 t617.length co19) t617) ∧ Aside0 (Kd.R Kd.string 9 wc w.heap.size (fun k_ => some k_ ≠ ((.slice Ao16 t612.length co16) : Value).ownBlock ∧ some k_ ≠ ((.slice Ao11 t602.length co11) : Value).ownBlock ∧ some k_ ≠ ((.slice Ao19 t617.length co19) : Value).ownBlock) (.slice Ao27 t624.length co27) t624) ∧ Aside0 (wc.heap[gb615]? = some (.cells #[(.slice Ao11 t602.length co11), .int .i64 t605, .string t606] 31 (0, 0))) ∧ Aside0 (wc.heap[gb616]? = some (.cells #[.int .i64 t610, .string t611] 28 (0, 0))) ∧ Aside0 (wc.heap[gb623]? = some (.cells #[(.slice Ao19 t617.length co19), .int .i64 t620, .string t621] 31 (0, 0))) ∧ Aside0 (wc.heap[gb630]? = some (.cells #[(.slice Ao27 t624.length co27), .int .i64 t627, .string t628] 31 (0, 0))) ∧ Aside0 (Below w.heap.size w wc))
  case first =>
   have H := HC7.out
   clear HC7
   replace H := it_ H; obtain ⟨c32, H⟩ | ⟨c32, H⟩ := H
   ·have c32b0 : (t622 == t629) = true := beq_iff_eq.mpr c32
    have c32b1 : (t622 != t629) = false := bne_eq_false_iff_eq.mpr c32
    clear c32
    (first | rw [c32b0] | (simp only [i64_w, i32_w]; rw [c32b0]) | skip)
    have H' := Aside0.mk H
    clear H
    go_wp2
    go_meet
    case rel => exact ⟨_, ((t622 != 0)), e1_, H', ⟨le_⟩, ⟨by (with_reducible repeat (first | apply Kd.R_alloc | apply Kd.R_drewN | apply Kd.R_drew)); exact Kd.R_mono (Kd.R_far (p := ⟨gb630, 2, none⟩) (Kd.R_far (p := ⟨gb630, 1, none⟩) (Kd.R_far (p := ⟨gb630, 0, none⟩) (Kd.R_types HO609.out BK630.out (by decide)) (fun _ hk => hk.2) (.slice Ao27 t624.length co27)) (fun _ hk => hk.2) (.int .i64 t627)) (fun _ hk => hk.2) (.string t628)) (fun _ hk => hk.1.2)⟩, ⟨by (with_reducible repeat (first | apply Kd.R_alloc | apply Kd.R_drewN | apply Kd.R_drew)); exact Kd.R_mono (Kd.R_far (p := ⟨gb630, 2, none⟩) (Kd.R_far (p := ⟨gb630, 1, none⟩) (Kd.R_far (p := ⟨gb630, 0, none⟩) (Kd.R_types HO614.out BK630.out (by decide)) (fun _ hk => hk.2) (.slice Ao27 t624.length co27)) (fun _ hk => hk.2) (.int .i64 t627)) (fun _ hk => hk.2) (.string t628)) (fun _ hk => ⟨hk.1.1.1, ⟨hk.1.1.2, hk.1.2⟩⟩)⟩, ⟨by (with_reducible repeat (first | apply Kd.R_alloc | apply Kd.R_drewN | apply Kd.R_drew)); exact Kd.R_mono (Kd.R_far (p := ⟨gb630, 2, none⟩) (Kd.R_far (p := ⟨gb630, 1, none⟩) (Kd.R_far (p := ⟨gb630, 0, none⟩) (Kd.R_types HO604.out BK630.out (by decide)) (fun _ hk => hk.2) (.slice Ao27 t624.length co27)) (fun _ hk => hk.2) (.int .i64 t627)) (fun _ hk => hk.2) (.string t628)) (fun _ hk => ⟨hk.1.1.1, ⟨hk.1.1.2, hk.1.2⟩⟩)⟩, ⟨by (with_reducible repeat (first | apply Kd.R_alloc | apply Kd.R_drewN | apply Kd.R_drew)); exact Kd.R_mono (Kd.R_far (p := ⟨gb630, 2, none⟩) (Kd.R_far (p := ⟨gb630, 1, none⟩) (Kd.R_far (p := ⟨gb630, 0, none⟩) (Kd.R_types HO619.out BK630.out (by decide)) (fun _ hk => hk.2) (.slice Ao27 t624.length co27)) (fun _ hk => hk.2) (.int .i64 t627)) (fun _ hk => hk.2) (.string t628)) (fun _ hk => ⟨hk.1.1.2, ⟨hk.1.1.1.2, hk.1.2⟩⟩)⟩, ⟨by (with_reducible repeat (first | apply Kd.R_alloc | apply Kd.R_drewN | apply Kd.R_drew)); exact Kd.R_mono (Kd.R_far (p := ⟨gb630, 2, none⟩) (Kd.R_far (p := ⟨gb630, 1, none⟩) (Kd.R_far (p := ⟨gb630, 0, none⟩) (Kd.R_types HO626.out BK630.out (by decide)) (fun _ hk => hk.2) (.slice Ao27 t624.length co27)) (fun _ hk => hk.2) (.int .i64 t627)) (fun _ hk => hk.2) (.string t628)) (fun _ hk => ⟨hk.1.1.2, ⟨hk.1.1.1.2, hk.1.2⟩⟩)⟩, ⟨kq_ BK615⟩, ⟨kq_ BK616⟩, ⟨kq_ BK623⟩, ⟨kq_ BK630⟩, ⟨bw_ HB⟩⟩
   ·have c32b0 : (t622 == t629) = false := beq_eq_false_iff_ne.mpr c32
    have c32b1 : (t622 != t629) = true := bne_iff_ne.mpr c32
    (first | rw [c32b0] | (simp only [i64_w, i32_w]; rw [c32b0]) | skip)
    have H' := Aside0.mk H
    clear H
    go_wp2
    go_meet
    case rel => exact ⟨_, (true), e1_, H', ⟨le_⟩, ⟨by (with_reducible repeat (first | apply Kd.R_alloc | apply Kd.R_drewN | apply Kd.R_drew)); exact Kd.R_mono (Kd.R_far (p := ⟨gb630, 2, none⟩) (Kd.R_far (p := ⟨gb630, 1, none⟩) (Kd.R_far (p := ⟨gb630, 0, none⟩) (Kd.R_types HO609.out BK630.out (by decide)) (fun _ hk => hk.2) (.slice Ao27 t624.length co27)) (fun _ hk => hk.2) (.int .i64 t627)) (fun _ hk => hk.2) (.string t628)) (fun _ hk => hk.1.2)⟩, ⟨by (with_reducible repeat (first | apply Kd.R_alloc | apply Kd.R_drewN | apply Kd.R_drew)); exact Kd.R_mono (Kd.R_far (p := ⟨gb630, 2, none⟩) (Kd.R_far (p := ⟨gb630, 1, none⟩) (Kd.R_far (p := ⟨gb630, 0, none⟩) (Kd.R_types HO614.out BK630.out (by decide)) (fun _ hk => hk.2) (.slice Ao27 t624.length co27)) (fun _ hk => hk.2) (.int .i64 t627)) (fun _ hk => hk.2) (.string t628)) (fun _ hk => ⟨hk.1.1.1, ⟨hk.1.1.2, hk.1.2⟩⟩)⟩, ⟨by (with_reducible repeat (first | apply Kd.R_alloc | apply Kd.R_drewN | apply Kd.R_drew)); exact Kd.R_mono (Kd.R_far (p := ⟨gb630, 2, none⟩) (Kd.R_far (p := ⟨gb630, 1, none⟩) (Kd.R_far (p := ⟨gb630, 0, none⟩) (Kd.R_types HO604.out BK630.out (by decide)) (fun _ hk => hk.2) (.slice Ao27 t624.length co27)) (fun _ hk => hk.2) (.int .i64 t627)) (fun _ hk => hk.2) (.string t628)) (fun _ hk => ⟨hk.1.1.1, ⟨hk.1.1.2, hk.1.2⟩⟩)⟩, ⟨by (with_reducible repeat (first | apply Kd.R_alloc | apply Kd.R_drewN | apply Kd.R_drew)); exact Kd.R_mono (Kd.R_far (p := ⟨gb630, 2, none⟩) (Kd.R_far (p := ⟨gb630, 1, none⟩) (Kd.R_far (p := ⟨gb630, 0, none⟩) (Kd.R_types HO619.out BK630.out (by decide)) (fun _ hk => hk.2) (.slice Ao27 t624.length co27)) (fun _ hk => hk.2) (.int .i64 t627)) (fun _ hk => hk.2) (.string t628)) (fun _ hk => ⟨hk.1.1.2, ⟨hk.1.1.1.2, hk.1.2⟩⟩)⟩, ⟨by (with_reducible repeat (first | apply Kd.R_alloc | apply Kd.R_drewN | apply Kd.R_drew)); exact Kd.R_mono (Kd.R_far (p := ⟨gb630, 2, none⟩) (Kd.R_far (p := ⟨gb630, 1, none⟩) (Kd.R_far (p := ⟨gb630, 0, none⟩) (Kd.R_types HO626.out BK630.out (by decide)) (fun _ hk => hk.2) (.slice Ao27 t624.length co27)) (fun _ hk => hk.2) (.int .i64 t627)) (fun _ hk => hk.2) (.string t628)) (fun _ hk => ⟨hk.1.1.2, ⟨hk.1.1.1.2, hk.1.2⟩⟩)⟩, ⟨kq_ BK615⟩, ⟨kq_ BK616⟩, ⟨kq_ BK623⟩, ⟨kq_ BK630⟩, ⟨bw_ HB⟩⟩
  case rest =>
   clear HC7
   try clear hz13
   try clear hz14
   try clear hz22
   try clear hz23
   try clear hz24
   try clear hz31
   obtain ⟨kq, x42_6, rfl, HA, HJ6, HO_4, HO_6, HO_616000, HO_624000, HO_631000, BK615, BK616, BK623, BK630, HB⟩ := hcut
   cases kq with
   | zero => exact absurd HA.out (by simp [laws_FnExtended.j0])
   | succ kj6 =>
    have H := HA.out
    clear HA
    simp only [laws_FnExtended.j0] at H
    replace H := itb_ H; obtain ⟨rfl, H⟩ | ⟨rfl, H⟩ := H
    ·replace H := ip_ H; obtain ⟨c34, H⟩ := H
     have c34b0 : (t622 == t629) = true := beq_iff_eq.mpr c34
     have c34b1 : (t622 != t629) = false := bne_eq_false_iff_eq.mpr c34
     clear c34
     replace H := bi_ H; obtain ⟨t631, A35, H⟩ := H
     replace H := ipb_ H; obtain ⟨rfl, H⟩ := H
     obtain rfl := Option.some.inj H
     have hnb37 := NB623_615.out
     have hnc37 := NB615_623.out
     have hnb38 := NB623_616.out
     have hnc38 := NB616_623.out
     have hnb39 := NB623_630.out
     have hnc39 := NB630_623.out
     have hz40 := cz3_ BK623
     have hnb41 := NB615_616.out
     have hnc41 := NB616_615.out
     have hnb42 := NB615_630.out
     have hnc42 := NB630_615.out
     have hz43 := cz3_ BK615
     go_wp2_with (first | (go_at_call 18; (with_reducible refine (laws_sameTexts.calls kj6 _ _ t617 _ _ t602 true _ ?side1 ?side2 ?side3 ?side4 A35.out).mono ?_); (case side1 => exact ch_ HO_624000); (case side2 => exact (cl_ HO_624000)); (case side3 => exact ch_ HO_616000); (case side4 => exact (cl_ HO_616000)); rintro e w' ⟨rfl, ⟨nd, rfl⟩⟩))
     go_ret
     exact ⟨e2_, bw_ HB⟩
    ·replace H := bi_ H; obtain ⟨t632, A44, H⟩ := H
     replace H := ipb_ H; obtain ⟨rfl, H⟩ := H
     replace H := bi_ H; obtain ⟨t633, A46, H⟩ := H
     replace H := ipb_ H; obtain ⟨rfl, H⟩ := H
     replace H := it_ H; obtain ⟨c48, H⟩ | ⟨c48, H⟩ := H
     ·have c48b0 : (t620 == t610 && (t621.toList == t611.toList)) = true := c48
      (try (have c48b1 : decide (t620 = t610 && (t621.toList == t611.toList)) = true := by simpa using c48))
      (try (have c48b2 : (t620 == t610 && (t621.toList == t611.toList)) = true := by simpa using c48))
      clear c48
      replace H := bi_ H; obtain ⟨⟨t634, t635⟩, A49, H⟩ := H
      dsimp only at H
      replace H := it_ H; obtain ⟨c50, H⟩ | ⟨c50, H⟩ := H
      ·have c50b0 : (t634 == t610 && (t635.toList == t611.toList)) = true := c50
       (try (have c50b1 : decide (t634 = t610 && (t635.toList == t611.toList)) = true := by simpa using c50))
       (try (have c50b2 : (t634 == t610 && (t635.toList == t611.toList)) = true := by simpa using c50))
       clear c50
       obtain ⟨y636, Ny636, H⟩ := sb_ (([] : List ByteArray)) H
       replace H := ip_ H; obtain ⟨c51, H⟩ := H
       have LMc51 := Aside0.mk c51
       clear c51
       obtain ⟨y639, Ny639, H⟩ := sb_ (y636 ++ t602) H
       replace H := ip_ H; obtain ⟨c52, H⟩ := H
       have LMc52 := Aside0.mk c52
       clear c52
       obtain ⟨y642, hy642⟩ : ∃ y_ : List ByteArray, y_ = (y639 ++ t612) := ⟨_, rfl⟩
       replace H : ((laws_sameTexts.f kj6 t617 y642).bind fun t645 => (if t645 = true then (some (decide ((t612.length : Int) > 0))) else (none))) = some r := yh_ hy642 H
       have Ny642 := Aside0.mk hy642
       clear hy642
       replace H := bi_ H; obtain ⟨t645, A53, H⟩ := H
       replace H := ipb_ H; obtain ⟨rfl, H⟩ := H
       obtain rfl := Option.some.inj H
       try go_wp2
       replace HO_4 := Aside0.mk (Kd.R_drew HO_4.out)
       replace HO_6 := Aside0.mk (Kd.R_drew HO_6.out)
       replace HO_616000 := Aside0.mk (Kd.R_drew HO_616000.out)
       replace HO_624000 := Aside0.mk (Kd.R_drew HO_624000.out)
       replace HO_631000 := Aside0.mk (Kd.R_drew HO_631000.out)
       replace BK615 := Aside0.mk (blk_drew BK615.out)
       replace BK616 := Aside0.mk (blk_drew BK616.out)
       replace BK623 := Aside0.mk (blk_drew BK623.out)
       replace BK630 := Aside0.mk (blk_drew BK630.out)
       replace HB := Aside0.mk (below_drew1 HB.out)
       refine start_ (n := 38) (S := fun w' => w'.cell? ⟨gb623, 0, none⟩ = some (.slice Ao19 t617.length co19) ∧ w'.cell? ⟨gb623, 1, none⟩ = some (.int .i64 t620) ∧ w'.cell? ⟨gb623, 2, none⟩ = some (.string t621) ∧ w'.cell? ⟨gb616, 0, none⟩ = some (.int .i64 t610) ∧ w'.cell? ⟨gb616, 1, none⟩ = some (.string t611) ∧ w'.cell? ⟨gb615, 0, none⟩ = some (.slice Ao11 t602.length co11) ∧ w'.cell? ⟨gb615, 1, none⟩ = some (.int .i64 t605) ∧ w'.cell? ⟨gb615, 2, none⟩ = some (.string t606)) (ds := []) (lz_ 38 0) (by kernel_rfl) rfl rfl ⟨bc0_ BK623.out, bc1_ BK623.out, bc2_ BK623.out, bc0_ BK616.out, bc1_ BK616.out, bc0_ BK615.out, bc1_ BK615.out, bc2_ BK615.out⟩ (fun hHeld => ?_); refine with_tabW laws_FnExtended.tab8 laws_FnExtended.bits8 (fun HT_ HW_ => ?_)
       generalize wc.drew = w55 at HO_4 HO_6 HO_616000 HO_624000 HO_631000 BK615 BK616 BK623 BK630 HB hHeld ⊢
       refine tt_ 0 60 1 ?_
       refine one_ (i := 1) (N := some 61) (lz_ 38 3) rfl rfl (one_of HT_.out (by kernel_rfl)) (by decide) (fun K hK => ?_)
       refine gf_ Try.func17 (impl_LogOk.calls kj6 _ _ t617 t620 t621 true _ (ch_ HO_624000) (cl_ HO_624000) A44.out) ?_
       rintro e w56 ⟨rfl, hb⟩
       refine ⟨_, rfl, ?_⟩
       replace HO_4 := rb_ HO_4 hb
       replace HO_6 := rb_ HO_6 hb
       replace HO_616000 := rb_ HO_616000 hb
       replace HO_624000 := rb_ HO_624000 hb
       replace HO_631000 := rb_ HO_631000 hb
       replace BK615 := kl_ BK615 hb
       replace BK616 := kl_ BK616 hb
       replace BK623 := kl_ BK623 hb
       replace BK630 := kl_ BK630 hb
       replace HB := ss_ HB hb
       clear hb
       refine hK.out _ _ ⟨bc0_ BK623.out, bc1_ BK623.out, bc2_ BK623.out, bc0_ BK616.out, bc1_ BK616.out, bc0_ BK615.out, bc1_ BK615.out, bc2_ BK615.out⟩ (fun hHeld => ?_)
       clear hK K
       refine no_ 61 ?_
       refine pt_ 2 62 7 ?_
       refine pt_ 3 63 15 ?_
       refine pt_ 4 64 31 ?_
       refine tt_ 5 65 63 ?_
       refine one_ (i := 6) (N := some 66) (lz_ 38 127) rfl rfl (one_of HT_.out (by kernel_rfl)) (by decide) (fun K hK => ?_)
       refine gf_ Try.func22 (impl_IsSigned.calls kj6 _ _ t607 t620 t621 true _ (ch_ HO_4) (cl_ HO_4) A46.out) ?_
       rintro e w57 ⟨rfl, hb⟩
       refine ⟨_, rfl, ?_⟩
       replace HO_4 := rb_ HO_4 hb
       replace HO_6 := rb_ HO_6 hb
       replace HO_616000 := rb_ HO_616000 hb
       replace HO_624000 := rb_ HO_624000 hb
       replace HO_631000 := rb_ HO_631000 hb
       replace BK615 := kl_ BK615 hb
       replace BK616 := kl_ BK616 hb
       replace BK623 := kl_ BK623 hb
       replace BK630 := kl_ BK630 hb
       replace HB := ss_ HB hb
       clear hb
       refine hK.out _ _ ⟨bc0_ BK623.out, bc1_ BK623.out, bc2_ BK623.out, bc0_ BK616.out, bc1_ BK616.out, bc0_ BK615.out, bc1_ BK615.out, bc2_ BK615.out⟩ (fun hHeld => ?_)
       clear hK K
       refine no_ 66 ?_
       refine pt_ 7 67 255 ?_
       refine pt_ 8 68 511 ?_
       refine pt_ 9 69 1023 ?_
       refine tt_ 10 70 2047 ?_
       refine tt_ 11 71 4095 ?_
       refine pt_ 12 72 8191 ?_
       refine pt_ 13 73 16383 ?_
       refine pt_ 14 74 32767 ?_
       refine pt_ 15 75 65535 ?_
       refine tt_ 16 76 131071 ?_
       refine tt_ 18 78 393215 ?_
       refine one_ (i := 17) (N := some 77) (lz_ 38 524287) rfl rfl (one_of HT_.out (by kernel_rfl)) (by decide) (fun K hK => ?_)
       refine gf_ Try.func12 (impl_HeadOf.calls kj6 _ _ t617 t634 t635 _ (ch_ HO_624000) (cl_ HO_624000) A49.out) ?_
       rintro e w58 ⟨rfl, hb⟩
       refine ⟨_, rfl, ?_⟩
       replace HO_4 := rb_ HO_4 hb
       replace HO_6 := rb_ HO_6 hb
       replace HO_616000 := rb_ HO_616000 hb
       replace HO_624000 := rb_ HO_624000 hb
       replace HO_631000 := rb_ HO_631000 hb
       replace BK615 := kl_ BK615 hb
       replace BK616 := kl_ BK616 hb
       replace BK623 := kl_ BK623 hb
       replace BK630 := kl_ BK630 hb
       replace HB := ss_ HB hb
       clear hb
       refine hK.out _ _ ⟨bc0_ BK623.out, bc1_ BK623.out, bc2_ BK623.out, bc0_ BK616.out, bc1_ BK616.out, bc0_ BK615.out, bc1_ BK615.out, bc2_ BK615.out⟩ (fun hHeld => ?_)
       clear hK K
       refine no_ 77 ?_
       refine pt_ 19 79 1048575 ?_
       refine pt_ 20 80 2097151 ?_
       refine pt_ 21 81 4194303 ?_
       refine pt_ 22 82 8388607 ?_
       refine pt_ 25 85 41943039 ?_
       refine pt_ 28 88 310378495 ?_
       refine tt_ 23 83 318767103 ?_
       refine tt_ 26 86 385875967 ?_
       refine one_ (i := 24) (N := some 84) (lz_ 38 402653183) rfl rfl (one_of HT_.out (by kernel_rfl)) (by decide) (fun K hK => ?_)
       refine Kd.R_lit_step Kd.string _ 9 ?hg (N := 84) ?hd (xs := ([] : List ByteArray)) (inner := []) (ok := fun _ => True) (okp := fun _ => True) ?hr ?hp (fun _ hk => hk) trivial (Below.refl _ _) (Nat.le_refl _) (by simp) ?_; (case hd => rfl); (case hg => rfl); (case hr => first | (go_simp; done) | (go_simp; rfl)); (case hp => exact (Reps.none _ _))
       intro v637 w59 ho60 hb hg_ hnew_
       clear hg_ hnew_
       (first | rw [← Ny636.out] at ho60 | (simp only [Int.reduceToNat] at ho60; rw [← Ny636.out] at ho60))
       replace HO_4 := rb_ HO_4 hb
       have HO638 := Aside0.mk (Kd.R_lower (Kd.R_new' (Kd.R_new' (Kd.R_new' (Kd.R_new' ho60 (lt_ HO_6)) (lt_ HO_616000)) (lt_ HO_624000)) (lt_ HO_631000)) (sz_ HB))
       replace HO_6 := re_ HO_6 ho60 hb
       replace HO_616000 := re_ HO_616000 ho60 hb
       replace HO_624000 := re_ HO_624000 ho60 hb
       replace HO_631000 := re_ HO_631000 ho60 hb
       replace BK615 := kl_ BK615 hb
       replace BK616 := kl_ BK616 hb
       replace BK623 := kl_ BK623 hb
       replace BK630 := kl_ BK630 hb
       replace HB := ss_ HB hb
       clear hb ho60
       refine hK.out _ _ ⟨bc0_ BK623.out, bc1_ BK623.out, bc2_ BK623.out, bc0_ BK616.out, bc1_ BK616.out, bc0_ BK615.out, bc1_ BK615.out, bc2_ BK615.out⟩ (fun hHeld => ?_)
       clear hK K
       refine no_ 84 ?_
       refine one_ (i := 27) (N := some 87) (lz_ 38 536870911) rfl rfl (one_of HT_.out (by kernel_rfl)) (by decide) (fun K hK => ?_)
       refine Kd.R_append_rows_step Kd.string (w0 := w) w.heap.size (by rfl) (.tmp 84) (.tmp 86) 24 9 (.string ⟨#[]⟩) 16 rfl Try.underlying24 info9 rfl (by decide) (by omega) v637 y636 t602 _ _ _ (fun k_ => some k_ ≠ (.slice Ao16 t612.length co16 : Value).ownBlock ∧ some k_ ≠ (.slice Ao11 t602.length co11 : Value).ownBlock ∧ some k_ ≠ (.slice Ao19 t617.length co19 : Value).ownBlock ∧ some k_ ≠ (.slice Ao27 t624.length co27 : Value).ownBlock) (fun _ => False) rfl rfl ?aO ?aR (fun _ _ h => h) (fun _ h => h.elim) ?aF ?aB ?aS ?aL ?_
       (case aR => repeat (first | exact (Kd.R_reads' HO_616000.out).2.2 | (with_reducible refine Kd.C_alloc ?_ _) | (with_reducible refine Kd.C_drewN ?_ _) | (with_reducible refine Kd.C_drew ?_)))
       (case aB => exact (bw_ HB))
       (case aF => exact (fun k_ hk => ⟨Kd.fresh' (lt_ HO_6) k_ hk, Kd.fresh' (lt_ HO_616000) k_ hk, Kd.fresh' (lt_ HO_624000) k_ hk, Kd.fresh' (lt_ HO_631000) k_ hk⟩))
       (case aO => exact (kr_ (Kd.R_mono HO638.out (fun _ hk => ⟨hk.1.1.1.2, ⟨hk.1.1.2, ⟨hk.1.2, hk.2⟩⟩⟩))))
       (case aS => exact (sz_ HB))
       (case aL => have := LMc51.out; omega)
       intro v640 w61 ho hb hg hat
       rw [← Ny639.out] at ho
       replace HO_4 := Aside0.mk (Kd.R_over' (kr_ HO_4.out) (Kd.R_typed (kr_ HO638.out)) (by decide) hg)
       replace HO_6 := Aside0.mk (Kd.R_after (ok := (fun k_ => some k_ ≠ (.slice Ao11 t602.length co11 : Value).ownBlock ∧ some k_ ≠ (.slice Ao19 t617.length co19 : Value).ownBlock ∧ some k_ ≠ (.slice Ao27 t624.length co27 : Value).ownBlock)) (kr_ HO_6.out) hg hat)
       replace HO_616000 := Aside0.mk (Kd.R_after (ok := (fun k_ => some k_ ≠ (.slice Ao16 t612.length co16 : Value).ownBlock ∧ some k_ ≠ (.slice Ao19 t617.length co19 : Value).ownBlock ∧ some k_ ≠ (.slice Ao27 t624.length co27 : Value).ownBlock)) (kr_ HO_616000.out) hg hat)
       replace HO_624000 := Aside0.mk (Kd.R_after (ok := (fun k_ => some k_ ≠ (.slice Ao16 t612.length co16 : Value).ownBlock ∧ some k_ ≠ (.slice Ao11 t602.length co11 : Value).ownBlock ∧ some k_ ≠ (.slice Ao27 t624.length co27 : Value).ownBlock)) (kr_ HO_624000.out) hg hat)
       replace HO_631000 := Aside0.mk (Kd.R_after (ok := (fun k_ => some k_ ≠ (.slice Ao16 t612.length co16 : Value).ownBlock ∧ some k_ ≠ (.slice Ao11 t602.length co11 : Value).ownBlock ∧ some k_ ≠ (.slice Ao19 t617.length co19 : Value).ownBlock)) (kr_ HO_631000.out) hg hat)
       replace BK615 := kg_ BK615 HO638 hg
       replace BK616 := kg_ BK616 HO638 hg
       replace BK623 := kg_ BK623 HO638 hg
       replace BK630 := kg_ BK630 HO638 hg
       replace HB := Aside0.mk hb
       have HO641 := Aside0.mk ho
       clear HO638
       clear ho hb hg hat
       refine hK.out _ _ ⟨bc0_ BK623.out, bc1_ BK623.out, bc2_ BK623.out, bc0_ BK616.out, bc1_ BK616.out, bc0_ BK615.out, bc1_ BK615.out, bc2_ BK615.out⟩ (fun hHeld => ?_)
       clear hK K
       refine no_ 87 ?_
       refine one_ (i := 29) (N := some 89) (lz_ 38 1073741823) rfl rfl (one_of HT_.out (by kernel_rfl)) (by decide) (fun K hK => ?_)
       refine Kd.R_append_rows_step Kd.string (w0 := w) w.heap.size (by rfl) (.tmp 87) (.tmp 88) 24 9 (.string ⟨#[]⟩) 16 rfl Try.underlying24 info9 rfl (by decide) (by omega) v640 y639 t612 _ _ _ (fun k_ => some k_ ≠ (.slice Ao16 t612.length co16 : Value).ownBlock ∧ some k_ ≠ (.slice Ao11 t602.length co11 : Value).ownBlock ∧ some k_ ≠ (.slice Ao19 t617.length co19 : Value).ownBlock ∧ some k_ ≠ (.slice Ao27 t624.length co27 : Value).ownBlock) (fun _ => False) rfl rfl ?aO ?aR (fun _ _ h => h) (fun _ h => h.elim) ?aF ?aB ?aS ?aL ?_
       (case aR => repeat (first | exact (Kd.R_reads' HO_6.out).2.2 | (with_reducible refine Kd.C_alloc ?_ _) | (with_reducible refine Kd.C_drewN ?_ _) | (with_reducible refine Kd.C_drew ?_)))
       (case aB => exact (bw_ HB))
       (case aF => exact (fun k_ hk => ⟨Kd.fresh' (lt_ HO_6) k_ hk, Kd.fresh' (lt_ HO_616000) k_ hk, Kd.fresh' (lt_ HO_624000) k_ hk, Kd.fresh' (lt_ HO_631000) k_ hk⟩))
       (case aO => exact (kr_ HO641.out))
       (case aS => exact (sz_ HB))
       (case aL => have := LMc52.out; omega)
       intro v643 w62 ho hb hg hat
       rw [← Ny642.out] at ho
       replace HO_4 := Aside0.mk (Kd.R_over' (kr_ HO_4.out) (Kd.R_typed (kr_ HO641.out)) (by decide) hg)
       replace HO_6 := Aside0.mk (Kd.R_after (ok := (fun k_ => some k_ ≠ (.slice Ao11 t602.length co11 : Value).ownBlock ∧ some k_ ≠ (.slice Ao19 t617.length co19 : Value).ownBlock ∧ some k_ ≠ (.slice Ao27 t624.length co27 : Value).ownBlock)) (kr_ HO_6.out) hg hat)
       replace HO_616000 := Aside0.mk (Kd.R_after (ok := (fun k_ => some k_ ≠ (.slice Ao16 t612.length co16 : Value).ownBlock ∧ some k_ ≠ (.slice Ao19 t617.length co19 : Value).ownBlock ∧ some k_ ≠ (.slice Ao27 t624.length co27 : Value).ownBlock)) (kr_ HO_616000.out) hg hat)
       replace HO_624000 := Aside0.mk (Kd.R_after (ok := (fun k_ => some k_ ≠ (.slice Ao16 t612.length co16 : Value).ownBlock ∧ some k_ ≠ (.slice Ao11 t602.length co11 : Value).ownBlock ∧ some k_ ≠ (.slice Ao27 t624.length co27 : Value).ownBlock)) (kr_ HO_624000.out) hg hat)
       replace HO_631000 := Aside0.mk (Kd.R_after (ok := (fun k_ => some k_ ≠ (.slice Ao16 t612.length co16 : Value).ownBlock ∧ some k_ ≠ (.slice Ao11 t602.length co11 : Value).ownBlock ∧ some k_ ≠ (.slice Ao19 t617.length co19 : Value).ownBlock)) (kr_ HO_631000.out) hg hat)
       replace BK615 := kg_ BK615 HO641 hg
       replace BK616 := kg_ BK616 HO641 hg
       replace BK623 := kg_ BK623 HO641 hg
       replace BK630 := kg_ BK630 HO641 hg
       replace HB := Aside0.mk hb
       have HO644 := Aside0.mk ho
       clear HO641
       clear ho hb hg hat
       obtain ⟨Ao63, co63, eo63⟩ := Kd.R_slice HO644.out
       (first | subst eo63 | (injection eo63 with f1_ f2_ f3_; have f4_ := f1_.symm; have f5_ := f3_.symm; clear f1_ f2_ f3_; subst f4_; subst f5_))
       refine hK.out _ _ ⟨bc0_ BK623.out, bc1_ BK623.out, bc2_ BK623.out, bc0_ BK616.out, bc1_ BK616.out, bc0_ BK615.out, bc1_ BK615.out, bc2_ BK615.out⟩ (fun hHeld => ?_)
       clear hK K
       refine no_ 89 ?_
       refine one_ (i := 30) (N := some 90) (lz_ 38 2147483647) rfl rfl (one_of HT_.out (by kernel_rfl)) (by decide) (fun K hK => ?_)
       refine gf_ Try.func18 (laws_sameTexts.calls kj6 _ _ t617 _ _ y642 true _ (ch_ HO_624000) (cl_ HO_624000) (ch_ HO644) (cl_ HO644) A53.out) ?_
       rintro e w' ⟨rfl, ⟨nd, rfl⟩⟩
       refine ⟨_, rfl, ?_⟩
       refine hK.out _ _ ⟨bc0_ BK623.out, bc1_ BK623.out, bc2_ BK623.out, bc0_ BK616.out, bc1_ BK616.out, bc0_ BK615.out, bc1_ BK615.out, bc2_ BK615.out⟩ (fun hHeld => ?_)
       clear hK K
       refine no_ 90 ?_
       refine pt_ 31 91 4294967295 ?_
       refine pt_ 32 92 8589934591 ?_
       refine pt_ 33 93 17179869183 ?_
       refine pt_ 34 94 34359738367 ?_
       refine pt_ 35 95 68719476735 ?_
       refine pt_ 36 96 137438953471 ?_
       refine pt_ 37 2 274877906943 ?_
       refine done_ (done_of HT_.out (by kernel_rfl)) ?_
       try go_wp2
       go_ret
       exact ⟨e2_, bw_ HB⟩
      ·have c50b0 : (t634 == t610 && (t635.toList == t611.toList)) = false := by simpa using c50
       (try (have c50b1 : decide (t634 = t610 && (t635.toList == t611.toList)) = false := by simpa using c50))
       (try (have c50b2 : (t634 == t610 && (t635.toList == t611.toList)) = false := by simpa using c50))
       (try (have c50b3 : ¬ (t634 = t610 && (t635.toList == t611.toList)) := by simpa using c50))
       clear c50
       exact absurd H (by simp)
     ·have c48b0 : (t620 == t610 && (t621.toList == t611.toList)) = false := by simpa using c48
      (try (have c48b1 : decide (t620 = t610 && (t621.toList == t611.toList)) = false := by simpa using c48))
      (try (have c48b2 : (t620 == t610 && (t621.toList == t611.toList)) = false := by simpa using c48))
      (try (have c48b3 : ¬ (t620 = t610 && (t621.toList == t611.toList)) := by simpa using c48))
      clear c48
      exact absurd H (by simp)
end Go.Proofs.Ytjnnglphdaemaaa.Q
end

section
/- The row of the law FnExtended out of its pure statement and the printed walk. -/
namespace Go.Proofs.Ytjnnglphdaemaaa.Q
open Go.RowKit Go.Proofs.Ytjnnglphdaemaaa.XO Go.Proofs.YtjnnglphdaemaaaW.PrintWords Go.ChangeShapes Go.WideShapes Go.ChangeAt
set_option linter.unusedVariables false
set_option linter.unusedSimpArgs false
def laws_FnExtended.Pure : Prop := ∀ (x0 : List Int), (x0.length ≤ 9223372036854775807 ∧ ∀ y0 ∈ x0, (Lit.int .u8 y0).wf = true) → ∃ k, laws_FnExtended.f k x0 = some true
namespace RFnExtended
theorem own : ownKnob Try.prog.godebug = none := by kernel_rfl
theorem laidOut : laidOutB Try.prog = true := by kernel_rfl
set_option maxRecDepth 100000 in
theorem lifted (PU : laws_FnExtended.Pure) (os : Os) (started : os.Started) (H : Type) (enc : TypeId × Value → H) :
    ReturnsInHanded {} Try.checked os 4 .any (Rows.fnExtendedSpec.pre6 enc Try.prog Try.f4 Rows.fnExtendedRow.domain false) (Rows.fnExtendedSpec.post enc Try.prog Try.f4 false true false false) := by
  refine returnsInHanded_of_change_sized (C := Try.checked) own started (by kernel_rfl) Try.func4
    (ChangeSpec.witness6 (enc := enc) (C := Try.checked) false ⟨#[], #[.slice none 0 0], []⟩ 8 (by kernel_rfl) (by kernel_rfl) (by kernel_rfl) (by kernel_rfl)) ?_
  intro W base args ds gs before hval0 hW hcnd hsz0 _
  have hval : ∀ (j : Nat) t v, Try.f4.params[j]? = some t → args[j]? = some v → Value.okWide Try.prog W .any base t v := hval0
  have hW' := hW
  obtain ⟨p, q, hA0, hV, rfl, hfz, hnd⟩ := hW
  have hA : DataW.TrodAll enc Try.prog W 0 (fun _ => true) true Try.f4.params.toList args.toList ds p := hA0
  rw [Try.params4] at hA hval
  obtain ⟨v0, vs0, d0, ds0, p0, q0, hargs, rfl, rfl, h0, r0⟩ := trodAll_cons hA
  obtain ⟨rfl, rfl, rfl⟩ := trodAll_nil r0
  obtain rfl : args = #[v0] := by cases args; simp_all
  obtain ⟨rfl, rfl⟩ := trodVars_none hV
  have kk0 := h0
  have lt0 : ∀ x ∈ p0, x.block < W.heap.size := by obtain ⟨m, hm⟩ := kk0; exact DataW.trod_lt m _ _ _ hm
  obtain ⟨A0, len0, c0, rfl⟩ := okWide_slice Try.underlying22 (hval 0 22 v0 rfl rfl)
  obtain ⟨fu0, hf0⟩ := h0
  obtain ⟨x0, ⟨A0', c0', he0, hc0, hr0⟩, g0⟩ := (opens_slice Try.underlying22 (by kernel_rfl) (opens_int Try.underlying5)) hf0
  obtain ⟨rfl, rfl, rfl⟩ : A0 = A0' ∧ len0 = x0.length ∧ c0 = c0' := by simpa [Value.cells] using he0
  clear hA0 hval0 hsz0
  obtain ⟨k, hp⟩ := PU x0 g0
  refine (laws_FnExtended.calls k _ _ x0 true W hr0 hc0 hp).mono fun e W' ⟨he, bel0⟩ => ?_
  have bel : Below W.heap.size W W' := bel0
  subst he
  exact ⟨_, rfl, _, _, _, [], _, [], hW', trodAll_mk1 (shut_bool Try.underlying4 _), (trodAll_cons_mk (Below.trod laidOut (by kernel_rfl) (of_decide_eq_true (by kernel_rfl)) kk0 bel lt0) trodAll_mk0), rfl, bel.frame _, fun h => by cases h⟩
theorem over (PU : laws_FnExtended.Pure) : Rows.fnExtendedRow.holds Try.pinned (OpenSpec.ofChange Rows.fnExtendedSpec) :=
  OpenClaim.holds_of_wide 4 Try.f4 rfl rfl rfl rfl rfl rfl rfl ⟨rfl, rfl, rfl, rfl, rfl⟩ rfl rfl rfl rfl rfl (by kernel_rfl) Try.func4 (by kernel_rfl)
    (of_decide_eq_true (by kernel_rfl)) (by unfold Func.isWrapper; first | (rw [if_pos (by decide +kernel)]; kernel_rfl) | (rw [if_neg (by decide +kernel)]; exact ⟨rfl, rfl⟩))
    (fun os started H enc _ => lifted PU os started H enc)
end RFnExtended
theorem FnExtended_row (PU : laws_FnExtended.Pure) : Rows.FnExtendedSaid := RFnExtended.over PU
end Go.Proofs.Ytjnnglphdaemaaa.Q
end

section
/- What a drawn log takes was signed, is behind what there was, and has that head; what it does not take leaves it as it was; no condition. -/
namespace Go.Proofs.Ytjnnglphdaemaaa.Q
open Go.RowKit Go.Proofs.Ytjnnglphdaemaaa.B Go.Proofs.YtjnnglphdaemaaaW.PrintWords
set_option linter.unusedVariables false
set_option linter.unusedSimpArgs false
theorem extend_told (t : List IHead) (l : List ByteArray) (n : Int) (s : ByteArray) (a : Int) (z : ByteArray) (x : List ByteArray) :
  (∃ c, c ≠ 0 ∧ extendOf t l n s a z x = (l, n, s, c)) ∨ (extendOf t l n s a z x = (l ++ x, a, z, 0) ∧ hasHead t a z = true ∧ x.length ≠ 0 ∧ (l ++ x).length ≤ 200 ∧ a = (headOf (l ++ x)).1 ∧ z = (headOf (l ++ x)).2) := by
 unfold extendOf extOf
 by_cases h0 : logOk l n s = true
 ·rw [if_pos h0]
  by_cases h1 : (headOk a z && (a == ((l.length + x.length : Nat) : Int))) = true
  ·rw [if_pos h1]
   by_cases h2 : hasHead t a z = true
   ·rw [if_pos h2]
    by_cases h3 : x.length = 0
    ·rw [if_pos h3]
     exact .inl ⟨3, by decide, rfl⟩
    ·rw [if_neg h3]
     by_cases h4 : isHead (l ++ x) a z = true
     ·rw [if_pos h4]
      rw [Bool.and_eq_true] at h1
      have := headOk_is h1.1
      have he := eq_of_beq h1.2
      exact .inr ⟨rfl, h2, h3, by rw [List.length_append]; omega, isHead_is h4⟩
     ·rw [if_neg h4]
      exact .inl ⟨4, by decide, rfl⟩
   ·rw [if_neg h2]
    exact .inl ⟨2, by decide, rfl⟩
  ·rw [if_neg h1]
   exact .inl ⟨1, by decide, rfl⟩
 ·rw [if_neg h0]
  exact .inl ⟨1, by decide, rfl⟩
theorem pure_FnExtended : laws_FnExtended.Pure := by
 intro l0 g0
 refine Ev.rounds (g := fun k => laws_FnExtended.f k l0) ?_
 unfold laws_FnExtended.f laws_big.f
 by_cases hbig : (l0.length : Int) > 1048576
 ·exact Ev.pos (decide_eq_true hbig) (Ev.now _)
 ·refine Ev.neg (by rw [decide_eq_true_eq]; exact hbig) ?_
  obtain ⟨⟨l, n, s, t, a, z, x⟩, hD, b1, b2, b3, b4, b5⟩ := drawExtend_ev l0 (by omega)
  simp only at b1 b2 b3 b4 b5
  have hs : ∀ y ∈ l ++ x, y.size ≤ bigB := sizes_app b2 b5
  have eI := impl_Extend_ev t l n s a z x (by omega) hs (by omega)
  have eS := spec_Extend_ev t l n s a z x (by omega) hs (by omega)
  rcases extend_told t l n s a z x with ⟨c, hc, e⟩ | ⟨e, g1, g2, g3, g4, g5⟩
  ·rw [e] at eI eS
   have g3 := laws_same_ev l l (by omega)
   rw [decide_eq_true rfl] at g3
   refine Ev.bind hD (Ev.bind eI (Ev.bind eS (Ev.pos rfl ?_)))
   refine Ev.step (fun k => by simp only [laws_FnExtended.j0]; rfl) ?_
   refine Ev.pos (by simp [hc]) (Ev.pos trivial (Ev.bind g3 (Ev.pos rfl ?_)))
   simp only [beq_self_eq_true, Bool.and_self]
   exact Ev.now _
  ·rw [e] at eI eS
   have f1 := impl_LogOk_ev (l ++ x) a z hs
   have f2 := impl_IsSigned_ev t a z (by omega)
   have f3 := impl_HeadOf_ev (l ++ x) hs
   have hlog := logOk_head g3
   rw [← g4, ← g5] at hlog
   rw [hlog] at f1
   rw [g1] at f2
   have f4 := laws_same_ev (l ++ x) (l ++ x) (by omega)
   rw [decide_eq_true rfl] at f4
   refine Ev.bind hD (Ev.bind eI (Ev.bind eS (Ev.pos rfl ?_)))
   refine Ev.step (fun k => by simp only [laws_FnExtended.j0]; rfl) ?_
   refine Ev.neg (by simp) (Ev.bind f1 (Ev.pos rfl (Ev.bind f2 (Ev.pos rfl (Ev.pos (by simp) (Ev.bind f3 (Ev.pos (by simp [← g4, ← g5]) (Ev.bind (Ev.now _) (Ev.pos (by simp only [List.length_nil]; omega) (Ev.bind (Ev.now _) (Ev.pos (by simp only [List.nil_append]; omega) (Ev.bind f4 (Ev.pos rfl ?_)))))))))))))
   rw [decide_eq_true (by omega)]
   exact Ev.now _
end Go.Proofs.Ytjnnglphdaemaaa.Q
namespace Go.Proofs.Ytjnnglphdaemaaa
theorem fnExtended_holds : Rows.FnExtendedSaid := Q.FnExtended_row Q.pure_FnExtended
end Go.Proofs.Ytjnnglphdaemaaa
end
