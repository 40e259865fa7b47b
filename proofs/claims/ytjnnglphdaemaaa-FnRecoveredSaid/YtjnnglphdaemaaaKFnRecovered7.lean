-- Joined and shortened by a program of this session (wip/tools/shakecopy.py): the words of the print, texts of pp.sh and of mine.
import Derived.Test.YtjnnglphdaemaaaKFnRecovered6
import Derived.Test.YtjnnglphdaemaaaRows
import Derived.WalkKit
import Derived.ProofKit
import Derived.OpenShut
import Derived.ShutString
import Derived.ChangeOld
import Derived.Below
import Derived.SizedLaws
import Derived.Carry
section
-- Written by a program of this session (wip/tools/pp.sh) over the print of the kit.
namespace Go.Proofs.Ytjnnglphdaemaaa.Q
open Go.RowKit Go.Proofs.YtjnnglphdaemaaaW.PrintWords Go.Proofs.YtjnnglphdaemaaaW.PrintLast Go.Proofs.YtjnnglphdaemaaaW.PrintMore
attribute [local go_sem] max2_int min2_int max_two min_two max_three min_three max_four min_four   -- for this text's walks alone
set_option linter.unusedVariables false
set_option linter.unusedSimpArgs false
def spec_DrawStored.f (k : Nat) (l0 : List Int) : Option (List ByteArray × Int × ByteArray × List Int × Int × (List (S28))) := (spec_l1New.f k l0).bind fun bt602 => ((spec_l12Draw.f k bt602.1 bt602.2.1 bt602.2.2).bind fun bt606 => (some (bt606.1, bt606.2.1, bt606.2.2.1, bt606.2.2.2.1, bt606.2.2.2.2.1, bt606.2.2.2.2.2.2.1)))
set_option maxHeartbeats 8000000 in
set_option maxRecDepth 100000 in
theorem spec_DrawStored.calls (k : Nat) (A0 : Option Addr) (c0 : Nat) (l0 : List Int) (r1 : List ByteArray) (r2 : Int) (r3 : ByteArray) (r4 : List Int) (r5 : Int) (r6 : List (S28)) (w : World) (hr0 : Kd.C (Kd.int .u8) w A0 l0.length l0) (hc0 : l0.length ≤ c0) (h : spec_DrawStored.f k l0 = some (r1, r2, r3, r4, r5, r6)) :
  Calls Try.prog 38 #[.slice A0 l0.length c0] w fun e w' => ∃ v0_ v3_ v5_ : Value, e = .returned (.tuple #[.agg #[v0_, .int .i64 r2, .string r3, v3_, .int .i64 r5], v5_]) ∧ Kd.R Kd.string 9 w' w.heap.size (fun _ => True) v0_ r1 ∧ Kd.R (Kd.int .u8) 5 w' w.heap.size (fun _ => True) v3_ r4 ∧ Kd.R k28 28 w' w.heap.size (fun _ => True) v5_ r6 ∧ Below w.heap.size w w' := by
 have hu37 := Try.underlying37
 have HR0 := Aside0.mk hr0
 have HC0 := Aside0.mk hc0
 clear hr0 hc0
 have HB := Aside0.mk (Below.refl w.heap.size w)
 have H : ((spec_l1New.f k l0).bind fun bt602 => ((spec_l12Draw.f k bt602.1 bt602.2.1 bt602.2.2).bind fun bt606 => (some (bt606.1, bt606.2.1, bt606.2.2.1, bt606.2.2.2.1, bt606.2.2.2.2.1, bt606.2.2.2.2.2.2.1)))) = some (r1, r2, r3, r4, r5, r6) := h
 clear h
 replace H := bi_ H; obtain ⟨⟨t602, t603, t604⟩, A2, H⟩ := H
 dsimp only at H
 replace H := bi_ H; obtain ⟨⟨t606, t609, t610, t611, t614, t615, t618, t621, t622⟩, A3, H⟩ := H
 dsimp only at H
 replace H := so6_ H; obtain ⟨rfl, rfl, rfl, rfl, rfl, rfl⟩ := H
 go_enter Try.func38, Try.ntmps38
 go_wp2_with (first | ((with_reducible refine gd_ 2 ?_); refine bx_ 2 37 #[.slice none 0 0, .int .i64 0, .string (⟨#[]⟩ : ByteArray), .slice none 0 0, .int .i64 0] ?_; intro gb601 hg w4 hbox hb; have BK601 := Aside0.mk hbox; have GW601 := gg_ hg HB; have GE601 := GW601; replace HB := ss_ HB hb; clear hb hbox hg) | ((with_reducible refine gq_ 59 9 ?_); refine gc_ 9 Try.func59 (spec_l1New.calls k _ _ l0 t602 t603 t604 w _ (bw_ HB) HR0.out HC0.out A2.out) ?_; rintro e w5 ⟨g605, rfl, hi, hb, hb2⟩; refine ⟨_, rfl, ?_⟩; replace HB := Aside0.mk hb; have HI605 := Aside0.mk hi; have NB605_601 := Aside0.mk (IsS111.ne_blk hi (blk_below (kb_ BK601.out) hb2) (by decide)); have NB601_605 := Aside0.mk (Ne.symm (IsS111.ne_blk hi (blk_below (kb_ BK601.out) hb2) (by decide))); replace BK601 := Aside0.mk (blk_below (kb_ BK601.out) hb2); clear hb hb2 hi) | ((with_reducible refine gk_ 84 ?_); refine gl_ 12 Try.func84 #[.pointer (some ⟨g605, 0, none⟩)] ?_; (with_reducible refine (spec_l12Draw.calls k g605 t602 t603 t604 t606 t609 t610 t611 t614 t615 t618 t621 t622 w _ ?side1 ?side2 A3.out).mono ?_); (case side1 => repeat (first | (with_reducible first | exact HI605.out | apply IsS111.alloc | apply IsS111.drewN | apply IsS111.drew | apply IsS111.set_1 | apply IsS111.set_2 | refine IsS111.far ?_ NB605_601.out _) | exact HI605.out)); (case side2 => repeat (first | (with_reducible first | exact HB.out | apply below_alloc | apply pw_below_drewN | apply below_drew1 | refine below_set ?_ (IsS111.ge HI605.out) | refine below_set ?_ GE601.out) | exact HB.out)); rintro e w6 ⟨v607, v612, v616, v619, rfl, ho0, ho1, ho2, ho3, hi, hb, hk⟩; refine ⟨_, rfl, ?_⟩; replace BK601 := Aside0.mk (KeepBut.blk hk (g' := gb601) (o := .cells #[.slice none 0 0, .int .i64 0, .string (⟨#[]⟩ : ByteArray), .slice none 0 0, .int .i64 0] 37 (0, 0)) (kb_ BK601.out) NB601_605.out (by simp)); have HO608 := Aside0.mk (Kd.R_lower ho0 (below_size (bs2_ HB (IsS111.ge HI605.out) GE601.out))); have HO613 := Aside0.mk (Kd.R_lower ho1 (below_size (bs2_ HB (IsS111.ge HI605.out) GE601.out))); have HO617 := Aside0.mk (Kd.R_lower ho2 (below_size (bs2_ HB (IsS111.ge HI605.out) GE601.out))); have HO620 := Aside0.mk (Kd.R_lower ho3 (below_size (bs2_ HB (IsS111.ge HI605.out) GE601.out))); replace HB := Aside0.mk hb; replace HI605 := Aside0.mk hi; clear hb hk hi ho0 ho1 ho2 ho3) | ((with_reducible refine gd_ 5 ?_); refine bx_ 5 37 #[.slice none 0 0, .int .i64 0, .string (⟨#[]⟩ : ByteArray), .slice none 0 0, .int .i64 0] ?_; intro gb623 hg w7 hbox hb; replace HO608 := rb_ HO608 hb; replace HO613 := rb_ HO613 hb; replace HO617 := rb_ HO617 hb; replace HO620 := rb_ HO620 hb; have BK623 := Aside0.mk hbox; have GW623 := Aside0.mk (gz_ hg (below_size (bs2_ HB (IsS111.ge HI605.out) GE601.out))); have GE623 := Aside0.mk (gz_ hg (below_size (bs2_ HB (IsS111.ge HI605.out) GE601.out))); replace HB := Aside0.mk (below_step (bs2_ HB (IsS111.ge HI605.out) GE601.out) hb); have NB601_623 := Aside0.mk ((by rw [hg]; exact Nat.ne_of_lt (blk_lt (kb_ BK601.out)) : gb601 ≠ gb623)); have NB623_601 := Aside0.mk ((by rw [hg]; exact Nat.ne_of_gt (blk_lt (kb_ BK601.out)) : gb623 ≠ gb601)); replace BK601 := kl_ BK601 hb; have NB605_623 := Aside0.mk ((by rw [hg]; exact Nat.ne_of_lt (IsS111.lt (show IsS111 w _ g605 t602 t621 t622 from by repeat (first | (with_reducible first | exact HI605.out | apply IsS111.alloc | apply IsS111.drewN | apply IsS111.drew | apply IsS111.set_1 | apply IsS111.set_2 | refine IsS111.far ?_ NB605_601.out _) | exact HI605.out))) : g605 ≠ gb623)); have NB623_605 := Aside0.mk ((by rw [hg]; exact Nat.ne_of_gt (IsS111.lt (show IsS111 w _ g605 t602 t621 t622 from by repeat (first | (with_reducible first | exact HI605.out | apply IsS111.alloc | apply IsS111.drewN | apply IsS111.drew | apply IsS111.set_1 | apply IsS111.set_2 | refine IsS111.far ?_ NB605_601.out _) | exact HI605.out))) : gb623 ≠ g605)); replace HI605 := Aside0.mk (IsS111.below (by repeat (first | (with_reducible first | exact HI605.out | apply IsS111.alloc | apply IsS111.drewN | apply IsS111.drew | apply IsS111.set_1 | apply IsS111.set_2 | refine IsS111.far ?_ NB605_601.out _) | exact HI605.out)) hb); clear hb hbox hg; obtain ⟨Ao8, co8, eo8⟩ := Kd.R_slice HO608.out; subst eo8; have hnb9 := NB623_601.out; have hnc9 := NB601_623.out; have hnb10 := NB623_605.out; have hnc10 := NB605_623.out; have hz11 := cz5_ BK623; obtain ⟨Ao12, co12, eo12⟩ := Kd.R_slice HO613.out; subst eo12; have hnb13 := NB601_605.out; have hnc13 := NB605_601.out; have hz14 := cz5_ BK601))
 refine bodyPost_ret (results_ct rfl _ _ gb601 37 #[.slice Ao8 t606.length co8, .int .i64 t609, .string t610, .slice Ao12 t611.length co12, .int .i64 t614] (0, 0) _ rfl (by exact kq_ BK601) Try.underlying37 rfl (by kernel_rfl)) rfl ?_
 exact ⟨_, _, _, e2_, by (with_reducible repeat (first | apply Kd.R_alloc | apply Kd.R_drewN | apply Kd.R_drew)); exact Kd.R_mono (Kd.R_far (p := ⟨gb601, 4, none⟩) (Kd.R_far (p := ⟨gb601, 3, none⟩) (Kd.R_far (p := ⟨gb601, 2, none⟩) (Kd.R_far (p := ⟨gb601, 1, none⟩) (Kd.R_far (p := ⟨gb601, 0, none⟩) (Kd.R_far (p := ⟨gb623, 4, none⟩) (Kd.R_far (p := ⟨gb623, 3, none⟩) (Kd.R_far (p := ⟨gb623, 2, none⟩) (Kd.R_far (p := ⟨gb623, 1, none⟩) (Kd.R_far (p := ⟨gb623, 0, none⟩) (Kd.R_types (Kd.R_types HO608.out BK623.out (by decide)) BK601.out (by decide)) (fun _ hk => hk.1.2) (.slice Ao8 t606.length co8)) (fun _ hk => hk.1.2) (.int .i64 t609)) (fun _ hk => hk.1.2) (.string t610)) (fun _ hk => hk.1.2) (.slice Ao12 t611.length co12)) (fun _ hk => hk.1.2) (.int .i64 t614)) (fun _ hk => hk.2) (.slice Ao8 t606.length co8)) (fun _ hk => hk.2) (.int .i64 t609)) (fun _ hk => hk.2) (.string t610)) (fun _ hk => hk.2) (.slice Ao12 t611.length co12)) (fun _ hk => hk.2) (.int .i64 t614)) (fun _ hk => trivial), by (with_reducible repeat (first | apply Kd.R_alloc | apply Kd.R_drewN | apply Kd.R_drew)); exact Kd.R_mono (Kd.R_far (p := ⟨gb601, 4, none⟩) (Kd.R_far (p := ⟨gb601, 3, none⟩) (Kd.R_far (p := ⟨gb601, 2, none⟩) (Kd.R_far (p := ⟨gb601, 1, none⟩) (Kd.R_far (p := ⟨gb601, 0, none⟩) (Kd.R_far (p := ⟨gb623, 4, none⟩) (Kd.R_far (p := ⟨gb623, 3, none⟩) (Kd.R_far (p := ⟨gb623, 2, none⟩) (Kd.R_far (p := ⟨gb623, 1, none⟩) (Kd.R_far (p := ⟨gb623, 0, none⟩) (Kd.R_types (Kd.R_types HO613.out BK623.out (by decide)) BK601.out (by decide)) (fun _ hk => hk.1.2) (.slice Ao8 t606.length co8)) (fun _ hk => hk.1.2) (.int .i64 t609)) (fun _ hk => hk.1.2) (.string t610)) (fun _ hk => hk.1.2) (.slice Ao12 t611.length co12)) (fun _ hk => hk.1.2) (.int .i64 t614)) (fun _ hk => hk.2) (.slice Ao8 t606.length co8)) (fun _ hk => hk.2) (.int .i64 t609)) (fun _ hk => hk.2) (.string t610)) (fun _ hk => hk.2) (.slice Ao12 t611.length co12)) (fun _ hk => hk.2) (.int .i64 t614)) (fun _ hk => trivial), by (with_reducible repeat (first | apply Kd.R_alloc | apply Kd.R_drewN | apply Kd.R_drew)); exact Kd.R_mono (Kd.R_far (p := ⟨gb601, 4, none⟩) (Kd.R_far (p := ⟨gb601, 3, none⟩) (Kd.R_far (p := ⟨gb601, 2, none⟩) (Kd.R_far (p := ⟨gb601, 1, none⟩) (Kd.R_far (p := ⟨gb601, 0, none⟩) (Kd.R_far (p := ⟨gb623, 4, none⟩) (Kd.R_far (p := ⟨gb623, 3, none⟩) (Kd.R_far (p := ⟨gb623, 2, none⟩) (Kd.R_far (p := ⟨gb623, 1, none⟩) (Kd.R_far (p := ⟨gb623, 0, none⟩) (Kd.R_types (Kd.R_types HO620.out BK623.out (by decide)) BK601.out (by decide)) (fun _ hk => hk.1.2) (.slice Ao8 t606.length co8)) (fun _ hk => hk.1.2) (.int .i64 t609)) (fun _ hk => hk.1.2) (.string t610)) (fun _ hk => hk.1.2) (.slice Ao12 t611.length co12)) (fun _ hk => hk.1.2) (.int .i64 t614)) (fun _ hk => hk.2) (.slice Ao8 t606.length co8)) (fun _ hk => hk.2) (.int .i64 t609)) (fun _ hk => hk.2) (.string t610)) (fun _ hk => hk.2) (.slice Ao12 t611.length co12)) (fun _ hk => hk.2) (.int .i64 t614)) (fun _ hk => trivial), by repeat (first | (with_reducible first | exact HB.out | apply below_alloc | apply pw_below_drewN | apply below_drew1 | refine below_set ?_ (IsS111.ge HI605.out) | refine below_set ?_ GE601.out | refine below_set ?_ GE623.out) | exact HB.out)⟩
end Go.Proofs.Ytjnnglphdaemaaa.Q
end

section
-- Written by a program of this session (wip/tools/pp.sh) over the print of the kit.
namespace Go.Proofs.Ytjnnglphdaemaaa.Q
open Go.RowKit Go.Proofs.YtjnnglphdaemaaaW.PrintWords Go.Proofs.YtjnnglphdaemaaaW.PrintLast Go.Proofs.YtjnnglphdaemaaaW.PrintMore
attribute [local go_sem] max2_int min2_int max_two min_two max_three min_three max_four min_four   -- for this text's walks alone
set_option linter.unusedVariables false
set_option linter.unusedSimpArgs false
def laws_at.f (l0 : List Int) (a1 : Int) : Option (Int) := if a1 < (l0.length : Int) then (if 0 ≤ a1 then (some (wrap64 (rd l0 a1))) else (none)) else (some (Int.tmod (wrap64 ((wrap64 (a1 * 31)) + (wrap64 ((l0.length : Int) * 7)))) 256))
set_option maxHeartbeats 8000000 in
set_option maxRecDepth 100000 in
theorem laws_at.calls (A0 : Option Addr) (c0 : Nat) (l0 : List Int) (a1 : Int) (r : Int) (w : World) (hr0 : Kd.C (Kd.int .u8) w A0 l0.length l0) (hc0 : l0.length ≤ c0) (h : laws_at.f l0 a1 = some r) :
  Calls Try.prog 41 #[.slice A0 l0.length c0, .int .i64 a1] w fun e w' => e = .returned (.int .i64 r) ∧ Drawn0 w w' := by
 have HR0 := Aside0.mk hr0
 have HC0 := Aside0.mk hc0
 clear hr0 hc0
 have H : (if a1 < (l0.length : Int) then (if 0 ≤ a1 then (some (wrap64 (rd l0 a1))) else (none)) else (some (Int.tmod (wrap64 ((wrap64 (a1 * 31)) + (wrap64 ((l0.length : Int) * 7)))) 256))) = some r := h
 clear h
 replace H := itd_ H; obtain ⟨c3b0, H⟩ | ⟨c3b0, H⟩ := H
 ·replace H := ipd_ H; obtain ⟨c4b0, H⟩ := H
  obtain rfl := Option.some.inj H
  obtain ⟨ad601, e601, hx601_0, p601, q601⟩ := ai_ HR0.out a1
  cases e601
  go_enter Try.func41, Try.ntmps41
  go_wp2
  go_ret
  exact ⟨e1_, dw_⟩
 ·obtain rfl := Option.some.inj H
  go_enter Try.func41, Try.ntmps41
  go_wp2
  go_ret
  exact ⟨e1_, dw_⟩
end Go.Proofs.Ytjnnglphdaemaaa.Q
end

section
-- Written by a program of this session (wip/tools/pp.sh) over the print of the kit.
namespace Go.Proofs.Ytjnnglphdaemaaa.Q
open Go.RowKit Go.Proofs.YtjnnglphdaemaaaW.PrintWords Go.Proofs.YtjnnglphdaemaaaW.PrintLast Go.Proofs.YtjnnglphdaemaaaW.PrintMore
attribute [local go_sem] max2_int min2_int max_two min_two max_three min_three max_four min_four   -- for this text's walks alone
set_option linter.unusedVariables false
set_option linter.unusedSimpArgs false
attribute [local go_sem high] eqA28
def laws_FnRecovered.j0 : Nat → Bool → List ByteArray → Int → ByteArray → List Int → Int → List ByteArray → Int → ByteArray → List Int → Int → List ByteArray → Int → ByteArray → List Int → Int → List ByteArray → Int → ByteArray → List Int → Int → Option (Bool)
 | 0, _, _, _, _, _, _, _, _, _, _, _, _, _, _, _, _, _, _, _, _, _ => none
 | k + 1, x57, x615000, x615001, x615002, x615003, x615004, x630000, x630001, x630002, x630003, x630004, x644000, x644001, x644002, x644003, x644004, x667000, x667001, x667002, x667003, x667004 => if x57 = true then (none) else ((laws_begins.f k x644000 x630000).bind fun t669 => (if t669 = true then ((laws_begins.f k x630000 x615000).bind fun t670 => (if t670 = true then ((laws_sameTexts.f k x667000 x615000).bind fun t671 => (if t671 = true then (some (x667001 == x615001 && (x667002.toList == x615002.toList))) else (none))) else (none))) else (none)))
def laws_FnRecovered.f (k : Nat) (l0 : List Int) : Option (Bool) := (laws_big.f l0).bind fun t601 => (if t601 = true then (some true) else ((spec_DrawStored.f k l0).bind fun bt602 => ((laws_at.f l0 2).bind fun t615 => ((impl_FallStore.f bt602.1 bt602.2.1 bt602.2.2.1 bt602.2.2.2.1 bt602.2.2.2.2.1 t615).bind fun t616 => ((impl_OpenStore.f k bt602.2.2.2.2.2 t616).bind fun bt619 => ((impl_FallStore.f bt602.1 bt602.2.1 bt602.2.2.1 bt602.2.2.2.1 bt602.2.2.2.2.1 0).bind fun t630 => ((impl_OpenStore.f k bt602.2.2.2.2.2 t630).bind fun bt633 => ((impl_MakeSure.f k bt602.1 bt602.2.1 bt602.2.2.1 bt602.2.2.2.1 bt602.2.2.2.2.1).bind fun bt644 => ((impl_FallStore.f bt644.1 bt644.2.1 bt644.2.2.1 bt644.2.2.2.1 bt644.2.2.2.2 0).bind fun t653 => ((impl_OpenStore.f k bt602.2.2.2.2.2 t653).bind fun bt656 => ((impl_StoreOk.f k bt602.1 bt602.2.1 bt602.2.2.1 bt602.2.2.2.1 bt602.2.2.2.2.1).bind fun t667 => (if t667 = true then ((impl_StoreOk.f k bt619.1 bt619.2.1 bt619.2.2.1 bt619.2.2.2.1 bt619.2.2.2.2.1).bind fun t668 => (if t668 = true then (laws_FnRecovered.j0 k (bt619.2.2.2.2.1 != (bt619.2.2.2.1.length : Int)) bt602.1 bt602.2.1 bt602.2.2.1 bt602.2.2.2.1 bt602.2.2.2.2.1 bt619.1 bt619.2.1 bt619.2.2.1 bt619.2.2.2.1 bt619.2.2.2.2.1 bt633.1 bt633.2.1 bt633.2.2.1 bt633.2.2.2.1 bt633.2.2.2.2.1 bt656.1 bt656.2.1 bt656.2.2.1 bt656.2.2.2.1 bt656.2.2.2.2.1) else (laws_FnRecovered.j0 k true bt602.1 bt602.2.1 bt602.2.2.1 bt602.2.2.2.1 bt602.2.2.2.2.1 bt619.1 bt619.2.1 bt619.2.2.1 bt619.2.2.2.1 bt619.2.2.2.2.1 bt633.1 bt633.2.1 bt633.2.2.1 bt633.2.2.2.1 bt633.2.2.2.2.1 bt656.1 bt656.2.1 bt656.2.2.1 bt656.2.2.2.1 bt656.2.2.2.2.1))) else (laws_FnRecovered.j0 k true bt602.1 bt602.2.1 bt602.2.2.1 bt602.2.2.2.1 bt602.2.2.2.2.1 bt619.1 bt619.2.1 bt619.2.2.1 bt619.2.2.2.1 bt619.2.2.2.2.1 bt633.1 bt633.2.1 bt633.2.2.1 bt633.2.2.2.1 bt633.2.2.2.2.1 bt656.1 bt656.2.1 bt656.2.2.1 bt656.2.2.2.1 bt656.2.2.2.2.1)))))))))))))
def laws_FnRecovered.T4 : Bool × List (List Nat × List Nat) := (true, [([], []), ([], []), ([], []), ([2], [2]), ([1, 3, 3], [1, 3]), ([0, 4, 4], [0, 4]), ([5], [5]), ([6], [6]), ([6], [6]), ([], []), ([9, 7, 5, 0, 1, 2, 3, 4, 5, 6, 7, 9], [7, 9]), ([8, 10, 0, 1, 2, 3, 4, 5, 6, 7, 8, 9, 10], [8])])
def laws_FnRecovered.B4 : List Nat := [0, 0, 0, 4, 14, 31, 63, 127, 127, 0, 767, 2047]
theorem laws_FnRecovered.tab4 : rtab .any (opsOf Try.f6 4) = laws_FnRecovered.T4 := by kernel_rfl
theorem laws_FnRecovered.bits4 : waitsOk laws_FnRecovered.T4.2 laws_FnRecovered.B4 = true := by kernel_rfl
set_option maxHeartbeats 8000000 in
set_option maxRecDepth 100000 in
theorem laws_FnRecovered.calls (k : Nat) (A0 : Option Addr) (c0 : Nat) (l0 : List Int) (r : Bool) (w : World) (hr0 : Kd.C (Kd.int .u8) w A0 l0.length l0) (hc0 : l0.length ≤ c0) (h : laws_FnRecovered.f k l0 = some r) :
  Calls Try.prog 6 #[.slice A0 l0.length c0] w fun e w' => e = .returned (.bool r) ∧ Below w.heap.size w w' := by
 have hu37 := Try.underlying37
 have hu28 := Try.underlying28
 have HR0 := Aside0.mk hr0
 have HC0 := Aside0.mk hc0
 clear hr0 hc0
 have HB := Aside0.mk (Below.refl w.heap.size w)
 have H : ((laws_big.f l0).bind fun t601 => (if t601 = true then (some true) else ((spec_DrawStored.f k l0).bind fun bt602 => ((laws_at.f l0 2).bind fun t615 => ((impl_FallStore.f bt602.1 bt602.2.1 bt602.2.2.1 bt602.2.2.2.1 bt602.2.2.2.2.1 t615).bind fun t616 => ((impl_OpenStore.f k bt602.2.2.2.2.2 t616).bind fun bt619 => ((impl_FallStore.f bt602.1 bt602.2.1 bt602.2.2.1 bt602.2.2.2.1 bt602.2.2.2.2.1 0).bind fun t630 => ((impl_OpenStore.f k bt602.2.2.2.2.2 t630).bind fun bt633 => ((impl_MakeSure.f k bt602.1 bt602.2.1 bt602.2.2.1 bt602.2.2.2.1 bt602.2.2.2.2.1).bind fun bt644 => ((impl_FallStore.f bt644.1 bt644.2.1 bt644.2.2.1 bt644.2.2.2.1 bt644.2.2.2.2 0).bind fun t653 => ((impl_OpenStore.f k bt602.2.2.2.2.2 t653).bind fun bt656 => ((impl_StoreOk.f k bt602.1 bt602.2.1 bt602.2.2.1 bt602.2.2.2.1 bt602.2.2.2.2.1).bind fun t667 => (if t667 = true then ((impl_StoreOk.f k bt619.1 bt619.2.1 bt619.2.2.1 bt619.2.2.2.1 bt619.2.2.2.2.1).bind fun t668 => (if t668 = true then (laws_FnRecovered.j0 k (bt619.2.2.2.2.1 != (bt619.2.2.2.1.length : Int)) bt602.1 bt602.2.1 bt602.2.2.1 bt602.2.2.2.1 bt602.2.2.2.2.1 bt619.1 bt619.2.1 bt619.2.2.1 bt619.2.2.2.1 bt619.2.2.2.2.1 bt633.1 bt633.2.1 bt633.2.2.1 bt633.2.2.2.1 bt633.2.2.2.2.1 bt656.1 bt656.2.1 bt656.2.2.1 bt656.2.2.2.1 bt656.2.2.2.2.1) else (laws_FnRecovered.j0 k true bt602.1 bt602.2.1 bt602.2.2.1 bt602.2.2.2.1 bt602.2.2.2.2.1 bt619.1 bt619.2.1 bt619.2.2.1 bt619.2.2.2.1 bt619.2.2.2.2.1 bt633.1 bt633.2.1 bt633.2.2.1 bt633.2.2.2.1 bt633.2.2.2.2.1 bt656.1 bt656.2.1 bt656.2.2.1 bt656.2.2.2.1 bt656.2.2.2.2.1))) else (laws_FnRecovered.j0 k true bt602.1 bt602.2.1 bt602.2.2.1 bt602.2.2.2.1 bt602.2.2.2.2.1 bt619.1 bt619.2.1 bt619.2.2.1 bt619.2.2.2.1 bt619.2.2.2.2.1 bt633.1 bt633.2.1 bt633.2.2.1 bt633.2.2.2.1 bt633.2.2.2.2.1 bt656.1 bt656.2.1 bt656.2.2.1 bt656.2.2.2.1 bt656.2.2.2.2.1)))))))))))))) = some r := h
 clear h
 replace H := bi_ H; obtain ⟨t601, A2, H⟩ := H
 replace H := itb_ H; obtain ⟨rfl, H⟩ | ⟨rfl, H⟩ := H
 ·obtain rfl := Option.some.inj H
  go_enter Try.func6, Try.ntmps6
  go_wp2_with (first | ((with_reducible refine gq_ 10 12 ?_); refine gc_ 12 Try.func10 (laws_big.calls _ _ l0 true _ (cr_ HR0.out) HC0.out A2.out) ?_; rintro e w' ⟨rfl, ⟨nd, rfl⟩⟩; refine ⟨_, rfl, ?_⟩))
  go_ret
  exact ⟨e2_, bw_ HB⟩
 ·replace H := bi_ H; obtain ⟨⟨t602, t605, t606, t607, t610, t611⟩, A4, H⟩ := H
  dsimp only at H
  replace H := bi_ H; obtain ⟨t615, A5, H⟩ := H
  replace H := bi_ H; obtain ⟨t616, A6, H⟩ := H
  replace H := bi_ H; obtain ⟨⟨t619, t622, t623, t624, t627, t628⟩, A7, H⟩ := H
  dsimp only at H
  replace H := bi_ H; obtain ⟨t630, A8, H⟩ := H
  replace H := bi_ H; obtain ⟨⟨t633, t636, t637, t638, t641, t642⟩, A9, H⟩ := H
  dsimp only at H
  replace H := bi_ H; obtain ⟨⟨t644, t647, t648, t649, t652⟩, A10, H⟩ := H
  dsimp only at H
  replace H := bi_ H; obtain ⟨t653, A11, H⟩ := H
  replace H := bi_ H; obtain ⟨⟨t656, t659, t660, t661, t664, t665⟩, A12, H⟩ := H
  dsimp only at H
  have HC13 := Aside0.mk H
  clear H
  go_enter Try.func6, Try.ntmps6
  try go_wp2_with (first | ((with_reducible refine gq_ 10 12 ?_); refine gc_ 12 Try.func10 (laws_big.calls _ _ l0 false _ (cr_ HR0.out) HC0.out A2.out) ?_; rintro e w' ⟨rfl, ⟨nd, rfl⟩⟩; refine ⟨_, rfl, ?_⟩) | ((with_reducible refine gq_ 38 15 ?_); refine gc_ 15 Try.func38 (spec_DrawStored.calls k _ _ l0 t602 t605 t606 t607 t610 t611 _ (cr_ HR0.out) HC0.out A4.out) ?_; rintro e w14 ⟨v603, v608, v612, rfl, ho0, ho1, ho2, hb⟩; refine ⟨_, rfl, ?_⟩; have HO604 := Aside0.mk (Kd.R_lower ho0 (sz_ HB)); have HO609 := Aside0.mk (Kd.R_lower ho1 (sz_ HB)); have HO613 := Aside0.mk (Kd.R_lower ho2 (sz_ HB)); replace HB := ss_ HB hb; clear hb ho0 ho1 ho2) | ((with_reducible refine gd_ 3 ?_); (try (refine gate_guard (by rfl) ?_; dsimp only)); refine bx_ 3 37 #[.slice none 0 0, .int .i64 0, .string (⟨#[]⟩ : ByteArray), .slice none 0 0, .int .i64 0] ?_; intro gb614 hg w15 hbox hb; replace HO604 := rb_ HO604 hb; replace HO609 := rb_ HO609 hb; replace HO613 := rb_ HO613 hb; have BK614 := Aside0.mk hbox; have GW614 := gg_ hg HB; have GE614 := GW614; replace HB := ss_ HB hb; clear hb hbox hg; obtain ⟨Ao16, co16, eo16⟩ := Kd.R_slice HO604.out; subst eo16; have hz17 := cz5_ BK614; obtain ⟨Ao18, co18, eo18⟩ := Kd.R_slice HO609.out; subst eo18; obtain ⟨Ao19, co19, eo19⟩ := Kd.R_slice HO613.out; subst eo19))
  have n0_ : Aside0 (Kd.R Kd.string 9 (((((w15.setCell ⟨gb614, 0, none⟩ (.slice Ao16 t602.length co16)).setCell ⟨gb614, 1, none⟩ (.int .i64 t605)).setCell ⟨gb614, 2, none⟩ (.string t606)).setCell ⟨gb614, 3, none⟩ (.slice Ao18 t607.length co18)).setCell ⟨gb614, 4, none⟩ (.int .i64 t610)) w.heap.size (fun _ => True) (.slice Ao16 t602.length co16) t602) := ⟨by (with_reducible repeat (first | apply Kd.R_alloc | apply Kd.R_drewN | apply Kd.R_drew)); exact Kd.R_mono (Kd.R_far (p := ⟨gb614, 4, none⟩) (Kd.R_far (p := ⟨gb614, 3, none⟩) (Kd.R_far (p := ⟨gb614, 2, none⟩) (Kd.R_far (p := ⟨gb614, 1, none⟩) (Kd.R_far (p := ⟨gb614, 0, none⟩) (Kd.R_types HO604.out BK614.out (by decide)) (fun _ hk => hk.2) (.slice Ao16 t602.length co16)) (fun _ hk => hk.2) (.int .i64 t605)) (fun _ hk => hk.2) (.string t606)) (fun _ hk => hk.2) (.slice Ao18 t607.length co18)) (fun _ hk => hk.2) (.int .i64 t610)) (fun _ hk => trivial)⟩
  have n1_ : Aside0 (Kd.R (Kd.int .u8) 5 (((((w15.setCell ⟨gb614, 0, none⟩ (.slice Ao16 t602.length co16)).setCell ⟨gb614, 1, none⟩ (.int .i64 t605)).setCell ⟨gb614, 2, none⟩ (.string t606)).setCell ⟨gb614, 3, none⟩ (.slice Ao18 t607.length co18)).setCell ⟨gb614, 4, none⟩ (.int .i64 t610)) w.heap.size (fun _ => True) (.slice Ao18 t607.length co18) t607) := ⟨by (with_reducible repeat (first | apply Kd.R_alloc | apply Kd.R_drewN | apply Kd.R_drew)); exact Kd.R_mono (Kd.R_far (p := ⟨gb614, 4, none⟩) (Kd.R_far (p := ⟨gb614, 3, none⟩) (Kd.R_far (p := ⟨gb614, 2, none⟩) (Kd.R_far (p := ⟨gb614, 1, none⟩) (Kd.R_far (p := ⟨gb614, 0, none⟩) (Kd.R_types HO609.out BK614.out (by decide)) (fun _ hk => hk.2) (.slice Ao16 t602.length co16)) (fun _ hk => hk.2) (.int .i64 t605)) (fun _ hk => hk.2) (.string t606)) (fun _ hk => hk.2) (.slice Ao18 t607.length co18)) (fun _ hk => hk.2) (.int .i64 t610)) (fun _ hk => trivial)⟩
  have n2_ : Aside0 (Kd.R k28 28 (((((w15.setCell ⟨gb614, 0, none⟩ (.slice Ao16 t602.length co16)).setCell ⟨gb614, 1, none⟩ (.int .i64 t605)).setCell ⟨gb614, 2, none⟩ (.string t606)).setCell ⟨gb614, 3, none⟩ (.slice Ao18 t607.length co18)).setCell ⟨gb614, 4, none⟩ (.int .i64 t610)) w.heap.size (fun _ => True) (.slice Ao19 t611.length co19) t611) := ⟨by (with_reducible repeat (first | apply Kd.R_alloc | apply Kd.R_drewN | apply Kd.R_drew)); exact Kd.R_mono (Kd.R_far (p := ⟨gb614, 4, none⟩) (Kd.R_far (p := ⟨gb614, 3, none⟩) (Kd.R_far (p := ⟨gb614, 2, none⟩) (Kd.R_far (p := ⟨gb614, 1, none⟩) (Kd.R_far (p := ⟨gb614, 0, none⟩) (Kd.R_types HO613.out BK614.out (by decide)) (fun _ hk => hk.2) (.slice Ao16 t602.length co16)) (fun _ hk => hk.2) (.int .i64 t605)) (fun _ hk => hk.2) (.string t606)) (fun _ hk => hk.2) (.slice Ao18 t607.length co18)) (fun _ hk => hk.2) (.int .i64 t610)) (fun _ hk => trivial)⟩
  have n3_ : Aside0 ((((((w15.setCell ⟨gb614, 0, none⟩ (.slice Ao16 t602.length co16)).setCell ⟨gb614, 1, none⟩ (.int .i64 t605)).setCell ⟨gb614, 2, none⟩ (.string t606)).setCell ⟨gb614, 3, none⟩ (.slice Ao18 t607.length co18)).setCell ⟨gb614, 4, none⟩ (.int .i64 t610)).heap[gb614]? = some (.cells #[.slice Ao16 t602.length co16, .int .i64 t605, .string t606, .slice Ao18 t607.length co18, .int .i64 t610] 37 (0, 0))) := ⟨kq_ BK614⟩
  have n4_ : Aside0 (Below w.heap.size w (((((w15.setCell ⟨gb614, 0, none⟩ (.slice Ao16 t602.length co16)).setCell ⟨gb614, 1, none⟩ (.int .i64 t605)).setCell ⟨gb614, 2, none⟩ (.string t606)).setCell ⟨gb614, 3, none⟩ (.slice Ao18 t607.length co18)).setCell ⟨gb614, 4, none⟩ (.int .i64 t610))) := ⟨bw_ HB⟩
  generalize (((((w15.setCell ⟨gb614, 0, none⟩ (.slice Ao16 t602.length co16)).setCell ⟨gb614, 1, none⟩ (.int .i64 t605)).setCell ⟨gb614, 2, none⟩ (.string t606)).setCell ⟨gb614, 3, none⟩ (.slice Ao18 t607.length co18)).setCell ⟨gb614, 4, none⟩ (.int .i64 t610)) = w20 at n0_ n1_ n2_ n3_ n4_ ⊢
  have HO604 := n0_
  have HO609 := n1_
  have HO613 := n2_
  have BK614 := n3_
  have HB := n4_
  clear n0_ n1_ n2_ n3_ n4_
  replace HO604 := Aside0.mk (Kd.R_drew HO604.out)
  replace HO609 := Aside0.mk (Kd.R_drew HO609.out)
  replace HO613 := Aside0.mk (Kd.R_drew HO613.out)
  replace BK614 := Aside0.mk (blk_drew BK614.out)
  replace HB := Aside0.mk (below_drew1 HB.out)
  refine start_ (n := 12) (S := fun w' => w'.cell? ⟨gb614, 0, none⟩ = some (.slice Ao16 t602.length co16) ∧ w'.cell? ⟨gb614, 1, none⟩ = some (.int .i64 t605) ∧ w'.cell? ⟨gb614, 2, none⟩ = some (.string t606) ∧ w'.cell? ⟨gb614, 3, none⟩ = some (.slice Ao18 t607.length co18) ∧ w'.cell? ⟨gb614, 4, none⟩ = some (.int .i64 t610)) (ds := []) (lz_ 12 0) (by kernel_rfl) rfl rfl ⟨bc0_ BK614.out, bc1_ BK614.out, bc2_ BK614.out, bc3_ BK614.out, bc4_ BK614.out⟩ (fun hHeld => ?_); refine with_tabW laws_FnRecovered.tab4 laws_FnRecovered.bits4 (fun HT_ HW_ => ?_)
  generalize w20.drew = w21 at HO604 HO609 HO613 BK614 HB hHeld ⊢
  refine pt_ 0 19 1 ?_
  refine pt_ 2 21 5 ?_
  refine tt_ 1 20 7 ?_
  refine join_ (σ := Value × Value × Value × Nat) 2 (lz_ 12 1023) (fun s_ => [(22, .int .i64 t615), (23, s_.1), (24, .tuple #[.agg #[s_.2.1, .int .i64 t622, .string t623, s_.2.2.1, .int .i64 t627], .int .i64 t628]), (5, .pointer (some ⟨s_.2.2.2, 0, none⟩)), (18, .tuple #[.agg #[s_.2.1, .int .i64 t622, .string t623, s_.2.2.1, .int .i64 t627], .int .i64 t628]), (25, .agg #[s_.2.1, .int .i64 t622, .string t623, s_.2.2.1, .int .i64 t627]), (26, .int .i64 t628)]) (fun s_ w' => (w'.cell? ⟨gb614, 0, none⟩ = some (.slice Ao16 t602.length co16) ∧ w'.cell? ⟨gb614, 1, none⟩ = some (.int .i64 t605) ∧ w'.cell? ⟨gb614, 2, none⟩ = some (.string t606) ∧ w'.cell? ⟨gb614, 3, none⟩ = some (.slice Ao18 t607.length co18) ∧ w'.cell? ⟨gb614, 4, none⟩ = some (.int .i64 t610)) ∧ (Kd.R Kd.string 9 w' w.heap.size (fun k_ => some k_ ≠ (s_.2.1 : Value).ownBlock) (.slice Ao16 t602.length co16) t602) ∧ (Kd.R (Kd.int .u8) 5 w' w.heap.size (fun k_ => some k_ ≠ (s_.1 : Value).ownBlock ∧ some k_ ≠ (s_.2.2.1 : Value).ownBlock) (.slice Ao18 t607.length co18) t607) ∧ (Kd.R k28 28 w' w.heap.size (fun _ => True) (.slice Ao19 t611.length co19) t611) ∧ (Kd.R (Kd.int .u8) 5 w' w.heap.size (fun k_ => some k_ ≠ (.slice Ao18 t607.length co18 : Value).ownBlock ∧ some k_ ≠ (s_.2.2.1 : Value).ownBlock) s_.1 t616) ∧ (Kd.R Kd.string 9 w' w.heap.size (fun k_ => some k_ ≠ (.slice Ao16 t602.length co16 : Value).ownBlock) s_.2.1 t619) ∧ (Kd.R (Kd.int .u8) 5 w' w.heap.size (fun k_ => some k_ ≠ (.slice Ao18 t607.length co18 : Value).ownBlock ∧ some k_ ≠ (s_.1 : Value).ownBlock) s_.2.2.1 t624) ∧ (w'.heap[gb614]? = some (.cells #[.slice Ao16 t602.length co16, .int .i64 t605, .string t606, .slice Ao18 t607.length co18, .int .i64 t610] 37 (0, 0))) ∧ (w'.heap[s_.2.2.2]? = some (.cells #[.slice none 0 0, .int .i64 0, .string (⟨#[]⟩ : ByteArray), .slice none 0 0, .int .i64 0] 37 (0, 0))) ∧ (w.heap.size ≤ s_.2.2.2) ∧ (w.heap.size ≤ s_.2.2.2) ∧ (gb614 ≠ s_.2.2.2) ∧ (s_.2.2.2 ≠ gb614) ∧ (Below w.heap.size w w')) ?_ ?_
  rotate_left
  ·intro hCont
   refine two_ (i := 3) (j := 9) (Ni := some 22) (Nj := some 5) (lz_ 12 15) (lz_ 12 519) rfl rfl rfl rfl (two_of HT_.out (by kernel_rfl)) (by decide) (by decide) (fun K hK => ?_) (fun K hK => ?_)
   ·skip
    refine gf_ Try.func41 (laws_at.calls _ _ l0 2 t615 _ (cb_ HR0 HB) HC0.out A5.out) ?_
    rintro e w' ⟨rfl, ⟨nd, rfl⟩⟩
    refine ⟨_, rfl, ?_⟩
    refine hK.out _ _ ⟨bc0_ BK614.out, bc1_ BK614.out, bc2_ BK614.out, bc3_ BK614.out, bc4_ BK614.out⟩ (fun hHeld => ?_)
    clear hK K
    refine no_ 22 ?_
    refine two_ (i := 4) (j := 9) (Ni := some 23) (Nj := some 5) (lz_ 12 31) (lz_ 12 527) rfl rfl rfl rfl (two_of HT_.out (by kernel_rfl)) (by decide) (by decide) (fun K hK => ?_) (fun K hK => ?_)
    ·skip
     refine gf_ Try.func40 (impl_FallStore.calls _ _ t602 t605 t606 _ _ t607 t610 t615 t616 _ (ch_ HO604) (cl_ HO604) (ch_ HO609) (cl_ HO609) A6.out) ?_
     rintro e w22 ⟨v617, rfl, ho0, hb⟩
     refine ⟨_, rfl, ?_⟩
     replace HO604 := rb_ HO604 hb
     replace HO613 := rb_ HO613 hb
     have HO618 := Aside0.mk (Kd.R_lower (Kd.R_new' ho0 (lt_ HO609)) (sz_ HB))
     replace HO609 := re_ HO609 ho0 hb
     replace BK614 := kl_ BK614 hb
     replace HB := ss_ HB hb
     clear hb ho0
     obtain ⟨Ao23, co23, eo23⟩ := Kd.R_slice HO618.out
     (first | subst eo23 | (injection eo23 with f1_ f2_ f3_; have f4_ := f1_.symm; have f5_ := f3_.symm; clear f1_ f2_ f3_; subst f4_; subst f5_))
     refine hK.out _ _ ⟨bc0_ BK614.out, bc1_ BK614.out, bc2_ BK614.out, bc3_ BK614.out, bc4_ BK614.out⟩ (fun hHeld => ?_)
     clear hK K
     refine no_ 23 ?_
     refine two_ (i := 5) (j := 9) (Ni := some 24) (Nj := some 5) (lz_ 12 63) (lz_ 12 543) rfl rfl rfl rfl (two_of HT_.out (by kernel_rfl)) (by decide) (by decide) (fun K hK => ?_) (fun K hK => ?_)
     ·skip
      refine gf_ Try.func39 (impl_OpenStore.calls k _ _ t611 _ _ t616 t619 t622 t623 t624 t627 t628 _ (ch_ HO613) (cl_ HO613) (ch_ HO618) (cl_ HO618) A7.out) ?_
      rintro e w24 ⟨v620, v625, rfl, ho0, ho1, hb⟩
      refine ⟨_, rfl, ?_⟩
      replace HO613 := rb_ HO613 hb
      have HO621 := Aside0.mk (Kd.R_lower (Kd.R_new' ho0 (lt_ HO604)) (sz_ HB))
      replace HO604 := re_ HO604 ho0 hb
      have HO626 := Aside0.mk (Kd.R_lower (Kd.R_new' (Kd.R_new' ho1 (lt_ HO609)) (lt_ HO618)) (sz_ HB))
      replace HO609 := re_ HO609 ho1 hb
      replace HO618 := re_ HO618 ho1 hb
      replace BK614 := kl_ BK614 hb
      replace HB := ss_ HB hb
      clear hb ho0 ho1
      refine hK.out _ _ ⟨bc0_ BK614.out, bc1_ BK614.out, bc2_ BK614.out, bc3_ BK614.out, bc4_ BK614.out⟩ (fun hHeld => ?_)
      clear hK K
      refine no_ 24 ?_
      refine pt_ 6 18 127 ?_
      refine pt_ 7 25 255 ?_
      refine pt_ 8 26 511 ?_
      refine one_ (i := 9) (N := some 5) (lz_ 12 1023) rfl rfl (one_of HT_.out (by kernel_rfl)) (by decide) (fun K hK => ?_)
      refine box_step ?hg (N := 5) ?hd (cs := #[.slice none 0 0, .int .i64 0, .string (⟨#[]⟩ : ByteArray), .slice none 0 0, .int .i64 0]) (t := 37) ?hr ?_; (case hd => rfl); (case hg => rfl); (case hr => first | (go_simp; done) | (go_simp; rfl))
      intro gb629 hg w25 hbox hb
      replace HO604 := rb_ HO604 hb
      replace HO609 := rb_ HO609 hb
      replace HO613 := rb_ HO613 hb
      replace HO618 := rb_ HO618 hb
      replace HO621 := rb_ HO621 hb
      replace HO626 := rb_ HO626 hb
      have BK629 := Aside0.mk hbox
      have GW629 := gg_ hg HB
      have GE629 := GW629
      replace HB := ss_ HB hb
      have NB614_629 := nla_ hg BK614
      have NB629_614 := nga_ hg BK614
      replace BK614 := kl_ BK614 hb
      clear hb hbox hg
      refine hK.out _ _ ⟨bc0_ BK614.out, bc1_ BK614.out, bc2_ BK614.out, bc3_ BK614.out, bc4_ BK614.out⟩ (fun hHeld => ?_)
      clear hK K
      refine no_ 5 ?_
      exact norm_ (by simp only [putAll, Act.put, List.setIfInBounds_toArray, List.set_cons_zero, List.set_cons_succ]) (hCont (.slice Ao23 t616.length co23, v620, v625, gb629) _ ⟨hHeld, (kr_ (Kd.R_mono HO604.out (fun _ hk => hk.2))), (kr_ (Kd.R_mono HO609.out (fun _ hk => ⟨hk.1.2, hk.2⟩))), (kr_ HO613.out), (kr_ (Kd.R_mono HO618.out (fun _ hk => ⟨hk.1.2, hk.2⟩))), (kr_ (Kd.R_mono HO621.out (fun _ hk => hk.2))), (kr_ (Kd.R_mono HO626.out (fun _ hk => ⟨hk.1.2, hk.2⟩))), (kb_ BK614.out), (kb_ BK629.out), GW629.out, GE629.out, NB614_629.out, NB629_614.out, (bw_ HB)⟩)
     ·skip
      refine box_step ?hg (N := 5) ?hd (cs := #[.slice none 0 0, .int .i64 0, .string (⟨#[]⟩ : ByteArray), .slice none 0 0, .int .i64 0]) (t := 37) ?hr ?_; (case hd => rfl); (case hg => rfl); (case hr => first | (go_simp; done) | (go_simp; rfl))
      intro gb629 hg w23 hbox hb
      replace HO604 := rb_ HO604 hb
      replace HO609 := rb_ HO609 hb
      replace HO613 := rb_ HO613 hb
      replace HO618 := rb_ HO618 hb
      have BK629 := Aside0.mk hbox
      have GW629 := gg_ hg HB
      have GE629 := GW629
      replace HB := ss_ HB hb
      have NB614_629 := nla_ hg BK614
      have NB629_614 := nga_ hg BK614
      replace BK614 := kl_ BK614 hb
      clear hb hbox hg
      obtain ⟨Ao24, co24, eo24⟩ := Kd.R_slice HO618.out
      (first | subst eo24 | (injection eo24 with f1_ f2_ f3_; have f4_ := f1_.symm; have f5_ := f3_.symm; clear f1_ f2_ f3_; subst f4_; subst f5_))
      refine hK.out _ _ ⟨bc0_ BK614.out, bc1_ BK614.out, bc2_ BK614.out, bc3_ BK614.out, bc4_ BK614.out⟩ (fun hHeld => ?_)
      clear hK K
      refine no_ 5 ?_
      refine one_ (i := 5) (N := some 24) (lz_ 12 575) rfl rfl (one_of HT_.out (by kernel_rfl)) (by decide) (fun K hK => ?_)
      refine gf_ Try.func39 (impl_OpenStore.calls k _ _ t611 _ _ t616 t619 t622 t623 t624 t627 t628 _ (ch_ HO613) (cl_ HO613) (ch_ HO618) (cl_ HO618) A7.out) ?_
      rintro e w25 ⟨v620, v625, rfl, ho0, ho1, hb⟩
      refine ⟨_, rfl, ?_⟩
      replace HO613 := rb_ HO613 hb
      have HO621 := Aside0.mk (Kd.R_lower (Kd.R_new' ho0 (lt_ HO604)) (sz_ HB))
      replace HO604 := re_ HO604 ho0 hb
      have HO626 := Aside0.mk (Kd.R_lower (Kd.R_new' (Kd.R_new' ho1 (lt_ HO609)) (lt_ HO618)) (sz_ HB))
      replace HO609 := re_ HO609 ho1 hb
      replace HO618 := re_ HO618 ho1 hb
      replace BK614 := kl_ BK614 hb
      replace BK629 := kl_ BK629 hb
      replace HB := ss_ HB hb
      clear hb ho0 ho1
      refine hK.out _ _ ⟨bc0_ BK614.out, bc1_ BK614.out, bc2_ BK614.out, bc3_ BK614.out, bc4_ BK614.out⟩ (fun hHeld => ?_)
      clear hK K
      refine no_ 24 ?_
      refine pt_ 6 18 639 ?_
      refine pt_ 7 25 767 ?_
      refine pt_ 8 26 1023 ?_
      exact norm_ (by simp only [putAll, Act.put, List.setIfInBounds_toArray, List.set_cons_zero, List.set_cons_succ]) (hCont (.slice Ao24 t616.length co24, v620, v625, gb629) _ ⟨hHeld, (kr_ (Kd.R_mono HO604.out (fun _ hk => hk.2))), (kr_ (Kd.R_mono HO609.out (fun _ hk => ⟨hk.1.2, hk.2⟩))), (kr_ HO613.out), (kr_ (Kd.R_mono HO618.out (fun _ hk => ⟨hk.1.2, hk.2⟩))), (kr_ (Kd.R_mono HO621.out (fun _ hk => hk.2))), (kr_ (Kd.R_mono HO626.out (fun _ hk => ⟨hk.1.2, hk.2⟩))), (kb_ BK614.out), (kb_ BK629.out), GW629.out, GE629.out, NB614_629.out, NB629_614.out, (bw_ HB)⟩)
    ·skip
     refine box_step ?hg (N := 5) ?hd (cs := #[.slice none 0 0, .int .i64 0, .string (⟨#[]⟩ : ByteArray), .slice none 0 0, .int .i64 0]) (t := 37) ?hr ?_; (case hd => rfl); (case hg => rfl); (case hr => first | (go_simp; done) | (go_simp; rfl))
     intro gb629 hg w22 hbox hb
     replace HO604 := rb_ HO604 hb
     replace HO609 := rb_ HO609 hb
     replace HO613 := rb_ HO613 hb
     have BK629 := Aside0.mk hbox
     have GW629 := gg_ hg HB
     have GE629 := GW629
     replace HB := ss_ HB hb
     have NB614_629 := nla_ hg BK614
     have NB629_614 := nga_ hg BK614
     replace BK614 := kl_ BK614 hb
     clear hb hbox hg
     refine hK.out _ _ ⟨bc0_ BK614.out, bc1_ BK614.out, bc2_ BK614.out, bc3_ BK614.out, bc4_ BK614.out⟩ (fun hHeld => ?_)
     clear hK K
     refine no_ 5 ?_
     refine one_ (i := 4) (N := some 23) (lz_ 12 543) rfl rfl (one_of HT_.out (by kernel_rfl)) (by decide) (fun K hK => ?_)
     refine gf_ Try.func40 (impl_FallStore.calls _ _ t602 t605 t606 _ _ t607 t610 t615 t616 _ (ch_ HO604) (cl_ HO604) (ch_ HO609) (cl_ HO609) A6.out) ?_
     rintro e w23 ⟨v617, rfl, ho0, hb⟩
     refine ⟨_, rfl, ?_⟩
     replace HO604 := rb_ HO604 hb
     replace HO613 := rb_ HO613 hb
     have HO618 := Aside0.mk (Kd.R_lower (Kd.R_new' ho0 (lt_ HO609)) (sz_ HB))
     replace HO609 := re_ HO609 ho0 hb
     replace BK614 := kl_ BK614 hb
     replace BK629 := kl_ BK629 hb
     replace HB := ss_ HB hb
     clear hb ho0
     obtain ⟨Ao24, co24, eo24⟩ := Kd.R_slice HO618.out
     (first | subst eo24 | (injection eo24 with f1_ f2_ f3_; have f4_ := f1_.symm; have f5_ := f3_.symm; clear f1_ f2_ f3_; subst f4_; subst f5_))
     refine hK.out _ _ ⟨bc0_ BK614.out, bc1_ BK614.out, bc2_ BK614.out, bc3_ BK614.out, bc4_ BK614.out⟩ (fun hHeld => ?_)
     clear hK K
     refine no_ 23 ?_
     refine one_ (i := 5) (N := some 24) (lz_ 12 575) rfl rfl (one_of HT_.out (by kernel_rfl)) (by decide) (fun K hK => ?_)
     refine gf_ Try.func39 (impl_OpenStore.calls k _ _ t611 _ _ t616 t619 t622 t623 t624 t627 t628 _ (ch_ HO613) (cl_ HO613) (ch_ HO618) (cl_ HO618) A7.out) ?_
     rintro e w25 ⟨v620, v625, rfl, ho0, ho1, hb⟩
     refine ⟨_, rfl, ?_⟩
     replace HO613 := rb_ HO613 hb
     have HO621 := Aside0.mk (Kd.R_lower (Kd.R_new' ho0 (lt_ HO604)) (sz_ HB))
     replace HO604 := re_ HO604 ho0 hb
     have HO626 := Aside0.mk (Kd.R_lower (Kd.R_new' (Kd.R_new' ho1 (lt_ HO609)) (lt_ HO618)) (sz_ HB))
     replace HO609 := re_ HO609 ho1 hb
     replace HO618 := re_ HO618 ho1 hb
     replace BK614 := kl_ BK614 hb
     replace BK629 := kl_ BK629 hb
     replace HB := ss_ HB hb
     clear hb ho0 ho1
     refine hK.out _ _ ⟨bc0_ BK614.out, bc1_ BK614.out, bc2_ BK614.out, bc3_ BK614.out, bc4_ BK614.out⟩ (fun hHeld => ?_)
     clear hK K
     refine no_ 24 ?_
     refine pt_ 6 18 639 ?_
     refine pt_ 7 25 767 ?_
     refine pt_ 8 26 1023 ?_
     exact norm_ (by simp only [putAll, Act.put, List.setIfInBounds_toArray, List.set_cons_zero, List.set_cons_succ]) (hCont (.slice Ao24 t616.length co24, v620, v625, gb629) _ ⟨hHeld, (kr_ (Kd.R_mono HO604.out (fun _ hk => hk.2))), (kr_ (Kd.R_mono HO609.out (fun _ hk => ⟨hk.1.2, hk.2⟩))), (kr_ HO613.out), (kr_ (Kd.R_mono HO618.out (fun _ hk => ⟨hk.1.2, hk.2⟩))), (kr_ (Kd.R_mono HO621.out (fun _ hk => hk.2))), (kr_ (Kd.R_mono HO626.out (fun _ hk => ⟨hk.1.2, hk.2⟩))), (kb_ BK614.out), (kb_ BK629.out), GW629.out, GE629.out, NB614_629.out, NB629_614.out, (bw_ HB)⟩)
   ·skip
    refine box_step ?hg (N := 5) ?hd (cs := #[.slice none 0 0, .int .i64 0, .string (⟨#[]⟩ : ByteArray), .slice none 0 0, .int .i64 0]) (t := 37) ?hr ?_; (case hd => rfl); (case hg => rfl); (case hr => first | (go_simp; done) | (go_simp; rfl))
    intro gb629 hg w22 hbox hb
    replace HO604 := rb_ HO604 hb
    replace HO609 := rb_ HO609 hb
    replace HO613 := rb_ HO613 hb
    have BK629 := Aside0.mk hbox
    have GW629 := gg_ hg HB
    have GE629 := GW629
    replace HB := ss_ HB hb
    have NB614_629 := nla_ hg BK614
    have NB629_614 := nga_ hg BK614
    replace BK614 := kl_ BK614 hb
    clear hb hbox hg
    refine hK.out _ _ ⟨bc0_ BK614.out, bc1_ BK614.out, bc2_ BK614.out, bc3_ BK614.out, bc4_ BK614.out⟩ (fun hHeld => ?_)
    clear hK K
    refine no_ 5 ?_
    refine one_ (i := 3) (N := some 22) (lz_ 12 527) rfl rfl (one_of HT_.out (by kernel_rfl)) (by decide) (fun K hK => ?_)
    refine gf_ Try.func41 (laws_at.calls _ _ l0 2 t615 _ (cb_ HR0 HB) HC0.out A5.out) ?_
    rintro e w' ⟨rfl, ⟨nd, rfl⟩⟩
    refine ⟨_, rfl, ?_⟩
    refine hK.out _ _ ⟨bc0_ BK614.out, bc1_ BK614.out, bc2_ BK614.out, bc3_ BK614.out, bc4_ BK614.out⟩ (fun hHeld => ?_)
    clear hK K
    refine no_ 22 ?_
    refine one_ (i := 4) (N := some 23) (lz_ 12 543) rfl rfl (one_of HT_.out (by kernel_rfl)) (by decide) (fun K hK => ?_)
    refine gf_ Try.func40 (impl_FallStore.calls _ _ t602 t605 t606 _ _ t607 t610 t615 t616 _ (ch_ HO604) (cl_ HO604) (ch_ HO609) (cl_ HO609) A6.out) ?_
    rintro e w23 ⟨v617, rfl, ho0, hb⟩
    refine ⟨_, rfl, ?_⟩
    replace HO604 := rb_ HO604 hb
    replace HO613 := rb_ HO613 hb
    have HO618 := Aside0.mk (Kd.R_lower (Kd.R_new' ho0 (lt_ HO609)) (sz_ HB))
    replace HO609 := re_ HO609 ho0 hb
    replace BK614 := kl_ BK614 hb
    replace BK629 := kl_ BK629 hb
    replace HB := ss_ HB hb
    clear hb ho0
    obtain ⟨Ao24, co24, eo24⟩ := Kd.R_slice HO618.out
    (first | subst eo24 | (injection eo24 with f1_ f2_ f3_; have f4_ := f1_.symm; have f5_ := f3_.symm; clear f1_ f2_ f3_; subst f4_; subst f5_))
    refine hK.out _ _ ⟨bc0_ BK614.out, bc1_ BK614.out, bc2_ BK614.out, bc3_ BK614.out, bc4_ BK614.out⟩ (fun hHeld => ?_)
    clear hK K
    refine no_ 23 ?_
    refine one_ (i := 5) (N := some 24) (lz_ 12 575) rfl rfl (one_of HT_.out (by kernel_rfl)) (by decide) (fun K hK => ?_)
    refine gf_ Try.func39 (impl_OpenStore.calls k _ _ t611 _ _ t616 t619 t622 t623 t624 t627 t628 _ (ch_ HO613) (cl_ HO613) (ch_ HO618) (cl_ HO618) A7.out) ?_
    rintro e w25 ⟨v620, v625, rfl, ho0, ho1, hb⟩
    refine ⟨_, rfl, ?_⟩
    replace HO613 := rb_ HO613 hb
    have HO621 := Aside0.mk (Kd.R_lower (Kd.R_new' ho0 (lt_ HO604)) (sz_ HB))
    replace HO604 := re_ HO604 ho0 hb
    have HO626 := Aside0.mk (Kd.R_lower (Kd.R_new' (Kd.R_new' ho1 (lt_ HO609)) (lt_ HO618)) (sz_ HB))
    replace HO609 := re_ HO609 ho1 hb
    replace HO618 := re_ HO618 ho1 hb
    replace BK614 := kl_ BK614 hb
    replace BK629 := kl_ BK629 hb
    replace HB := ss_ HB hb
    clear hb ho0 ho1
    refine hK.out _ _ ⟨bc0_ BK614.out, bc1_ BK614.out, bc2_ BK614.out, bc3_ BK614.out, bc4_ BK614.out⟩ (fun hHeld => ?_)
    clear hK K
    refine no_ 24 ?_
    refine pt_ 6 18 639 ?_
    refine pt_ 7 25 767 ?_
    refine pt_ 8 26 1023 ?_
    exact norm_ (by simp only [putAll, Act.put, List.setIfInBounds_toArray, List.set_cons_zero, List.set_cons_succ]) (hCont (.slice Ao24 t616.length co24, v620, v625, gb629) _ ⟨hHeld, (kr_ (Kd.R_mono HO604.out (fun _ hk => hk.2))), (kr_ (Kd.R_mono HO609.out (fun _ hk => ⟨hk.1.2, hk.2⟩))), (kr_ HO613.out), (kr_ (Kd.R_mono HO618.out (fun _ hk => ⟨hk.1.2, hk.2⟩))), (kr_ (Kd.R_mono HO621.out (fun _ hk => hk.2))), (kr_ (Kd.R_mono HO626.out (fun _ hk => ⟨hk.1.2, hk.2⟩))), (kb_ BK614.out), (kb_ BK629.out), GW629.out, GE629.out, NB614_629.out, NB629_614.out, (bw_ HB)⟩)
  rintro ⟨v617, v620, v625, gb629⟩ w26 ⟨hS_, h0_, h1_, h2_, h3_, h4_, h5_, h6_, h7_, h8_, h9_, h10_, h11_, h12_⟩
  have n0_ : Aside0 (Kd.R Kd.string 9 w26 w.heap.size (fun k_ => some k_ ≠ (v620 : Value).ownBlock) (.slice Ao16 t602.length co16) t602) := ⟨h0_⟩
  have n1_ : Aside0 (Kd.R (Kd.int .u8) 5 w26 w.heap.size (fun k_ => some k_ ≠ (v617 : Value).ownBlock ∧ some k_ ≠ (v625 : Value).ownBlock) (.slice Ao18 t607.length co18) t607) := ⟨h1_⟩
  have n2_ : Aside0 (Kd.R k28 28 w26 w.heap.size (fun _ => True) (.slice Ao19 t611.length co19) t611) := ⟨h2_⟩
  have n3_ : Aside0 (Kd.R (Kd.int .u8) 5 w26 w.heap.size (fun k_ => some k_ ≠ (.slice Ao18 t607.length co18 : Value).ownBlock ∧ some k_ ≠ (v625 : Value).ownBlock) v617 t616) := ⟨h3_⟩
  have n4_ : Aside0 (Kd.R Kd.string 9 w26 w.heap.size (fun k_ => some k_ ≠ (.slice Ao16 t602.length co16 : Value).ownBlock) v620 t619) := ⟨h4_⟩
  have n5_ : Aside0 (Kd.R (Kd.int .u8) 5 w26 w.heap.size (fun k_ => some k_ ≠ (.slice Ao18 t607.length co18 : Value).ownBlock ∧ some k_ ≠ (v617 : Value).ownBlock) v625 t624) := ⟨h5_⟩
  have n6_ : Aside0 (w26.heap[gb614]? = some (.cells #[.slice Ao16 t602.length co16, .int .i64 t605, .string t606, .slice Ao18 t607.length co18, .int .i64 t610] 37 (0, 0))) := ⟨h6_⟩
  have n7_ : Aside0 (w26.heap[gb629]? = some (.cells #[.slice none 0 0, .int .i64 0, .string (⟨#[]⟩ : ByteArray), .slice none 0 0, .int .i64 0] 37 (0, 0))) := ⟨h7_⟩
  have n8_ : Aside0 (w.heap.size ≤ gb629) := ⟨h8_⟩
  have n9_ : Aside0 (w.heap.size ≤ gb629) := ⟨h9_⟩
  have n10_ : Aside0 (gb614 ≠ gb629) := ⟨h10_⟩
  have n11_ : Aside0 (gb629 ≠ gb614) := ⟨h11_⟩
  have n12_ : Aside0 (Below w.heap.size w w26) := ⟨h12_⟩
  clear HO604
  clear HO609
  clear HO613
  clear BK614
  clear HB
  clear h0_ h1_ h2_ h3_ h4_ h5_ h6_ h7_ h8_ h9_ h10_ h11_ h12_
  have HO604 := n0_
  have HO609 := n1_
  have HO613 := n2_
  have HO618 := n3_
  have HO621 := n4_
  have HO626 := n5_
  have BK614 := n6_
  have BK629 := n7_
  have GW629 := n8_
  have GE629 := n9_
  have NB614_629 := n10_
  have NB629_614 := n11_
  have HB := n12_
  clear n0_ n1_ n2_ n3_ n4_ n5_ n6_ n7_ n8_ n9_ n10_ n11_ n12_
  have hHeld : w26.cell? ⟨gb614, 0, none⟩ = some (.slice Ao16 t602.length co16) ∧ w26.cell? ⟨gb614, 1, none⟩ = some (.int .i64 t605) ∧ w26.cell? ⟨gb614, 2, none⟩ = some (.string t606) ∧ w26.cell? ⟨gb614, 3, none⟩ = some (.slice Ao18 t607.length co18) ∧ w26.cell? ⟨gb614, 4, none⟩ = some (.int .i64 t610) := hS_
  obtain ⟨Ao27, co27, eo27⟩ := Kd.R_slice HO621.out
  (first | subst eo27 | (injection eo27 with f1_ f2_ f3_; have f4_ := f1_.symm; have f5_ := f3_.symm; clear f1_ f2_ f3_; subst f4_; subst f5_))
  obtain ⟨Ao31, co31, eo31⟩ := Kd.R_slice HO626.out
  (first | subst eo31 | (injection eo31 with f1_ f2_ f3_; have f4_ := f1_.symm; have f5_ := f3_.symm; clear f1_ f2_ f3_; subst f4_; subst f5_))
  refine nj_ ?_
  refine one_ (i := 10) (N := none) (lz_ 12 2047) rfl rfl (one_of HT_.out (by kernel_rfl)) (by decide) (fun K hK => ?_)
  have hs28 := bc0_ BK629.out
  have hfs28 := blk_frozen BK629.out 0
  have hns28_0 := NB614_629.out
  have hms28_0 := NB629_614.out
  have hs29 := bc1_ BK629.out
  have hfs29 := blk_frozen BK629.out 1
  have hns29_0 := NB614_629.out
  have hms29_0 := NB629_614.out
  have hs30 := bc2_ BK629.out
  have hfs30 := blk_frozen BK629.out 2
  have hns30_0 := NB614_629.out
  have hms30_0 := NB629_614.out
  have hs32 := bc3_ BK629.out
  have hfs32 := blk_frozen BK629.out 3
  have hns32_0 := NB614_629.out
  have hms32_0 := NB629_614.out
  have hs33 := bc4_ BK629.out
  have hfs33 := blk_frozen BK629.out 4
  have hns33_0 := NB614_629.out
  have hms33_0 := NB629_614.out
  refine skip_ (w1 := ?_) (by rfl) rfl ?_ ?_
  rotate_left
  ·go_simp
   rfl
  refine hK.out _ _ ⟨((cell_far (p := ⟨gb629, _, none⟩) NB614_629.out _).trans (((cell_far (p := ⟨gb629, _, none⟩) NB614_629.out _).trans (((cell_far (p := ⟨gb629, _, none⟩) NB614_629.out _).trans (((cell_far (p := ⟨gb629, _, none⟩) NB614_629.out _).trans (((cell_far (p := ⟨gb629, _, none⟩) NB614_629.out _).trans (hHeld.1)))))))))), ((cell_far (p := ⟨gb629, _, none⟩) NB614_629.out _).trans (((cell_far (p := ⟨gb629, _, none⟩) NB614_629.out _).trans (((cell_far (p := ⟨gb629, _, none⟩) NB614_629.out _).trans (((cell_far (p := ⟨gb629, _, none⟩) NB614_629.out _).trans (((cell_far (p := ⟨gb629, _, none⟩) NB614_629.out _).trans (hHeld.2.1)))))))))), ((cell_far (p := ⟨gb629, _, none⟩) NB614_629.out _).trans (((cell_far (p := ⟨gb629, _, none⟩) NB614_629.out _).trans (((cell_far (p := ⟨gb629, _, none⟩) NB614_629.out _).trans (((cell_far (p := ⟨gb629, _, none⟩) NB614_629.out _).trans (((cell_far (p := ⟨gb629, _, none⟩) NB614_629.out _).trans (hHeld.2.2.1)))))))))), ((cell_far (p := ⟨gb629, _, none⟩) NB614_629.out _).trans (((cell_far (p := ⟨gb629, _, none⟩) NB614_629.out _).trans (((cell_far (p := ⟨gb629, _, none⟩) NB614_629.out _).trans (((cell_far (p := ⟨gb629, _, none⟩) NB614_629.out _).trans (((cell_far (p := ⟨gb629, _, none⟩) NB614_629.out _).trans (hHeld.2.2.2.1)))))))))), ((cell_far (p := ⟨gb629, _, none⟩) NB614_629.out _).trans (((cell_far (p := ⟨gb629, _, none⟩) NB614_629.out _).trans (((cell_far (p := ⟨gb629, _, none⟩) NB614_629.out _).trans (((cell_far (p := ⟨gb629, _, none⟩) NB614_629.out _).trans (((cell_far (p := ⟨gb629, _, none⟩) NB614_629.out _).trans (hHeld.2.2.2.2))))))))))⟩ (fun hHeld => ?_)
  clear hK K
  refine pt_ 11 6 4095 ?_
  refine done_ (done_of HT_.out (by kernel_rfl)) ?_
  have hnb34 := NB614_629.out
  have hnc34 := NB629_614.out
  have hz35 := cz5_ BK614
  go_upto_region 7 with (first | ((with_reducible refine gq_ 40 30 ?_); refine gc_ 30 Try.func40 (impl_FallStore.calls _ _ t602 t605 t606 _ _ t607 t610 0 t630 _ (chf_ HO604 BK629) (cl_ HO604) (chf_ HO609 BK629) (cl_ HO609) A8.out) ?_; rintro e w36 ⟨v631, rfl, ho0, hb⟩; refine ⟨_, rfl, ?_⟩; replace HO604 := rbf_ HO604 BK629 hb; replace HO613 := rbf_ HO613 BK629 hb; replace HO621 := rbf_ HO621 BK629 hb; have HO632 := Aside0.mk (Kd.R_lower (Kd.R_new' (Kd.R_new' (Kd.R_new' ho0 (lf_ HO609 BK629)) (lf_ HO618 BK629)) (lf_ HO626 BK629)) (sz_ HB)); replace HO609 := ref_ HO609 BK629 ho0 hb; replace HO618 := ref_ HO618 BK629 ho0 hb; replace HO626 := ref_ HO626 BK629 ho0 hb; replace BK614 := kp_ BK614 hb; replace BK629 := kp_ BK629 hb; replace HB := ss_ HB hb; clear hb ho0; obtain ⟨Ao37, co37, eo37⟩ := Kd.R_slice HO632.out; subst eo37) | ((with_reducible refine gq_ 39 31 ?_); refine gc_ 31 Try.func39 (impl_OpenStore.calls k _ _ t611 _ _ t630 t633 t636 t637 t638 t641 t642 _ (ch_ HO613) (cl_ HO613) (ch_ HO632) (cl_ HO632) A9.out) ?_; rintro e w38 ⟨v634, v639, rfl, ho0, ho1, hb⟩; refine ⟨_, rfl, ?_⟩; replace HO613 := rb_ HO613 hb; have HO635 := Aside0.mk (Kd.R_lower (Kd.R_new' (Kd.R_new' ho0 (lt_ HO604)) (lt_ HO621)) (sz_ HB)); replace HO604 := re_ HO604 ho0 hb; replace HO621 := re_ HO621 ho0 hb; have HO640 := Aside0.mk (Kd.R_lower (Kd.R_new' (Kd.R_new' (Kd.R_new' (Kd.R_new' ho1 (lt_ HO609)) (lt_ HO618)) (lt_ HO626)) (lt_ HO632)) (sz_ HB)); replace HO609 := re_ HO609 ho1 hb; replace HO618 := re_ HO618 ho1 hb; replace HO626 := re_ HO626 ho1 hb; replace HO632 := re_ HO632 ho1 hb; replace BK614 := kl_ BK614 hb; replace BK629 := kl_ BK629 hb; replace HB := ss_ HB hb; clear hb ho0 ho1) | ((with_reducible refine gd_ 7 ?_); (try (refine gate_guard (by rfl) ?_; dsimp only)); refine bx_ 7 37 #[.slice none 0 0, .int .i64 0, .string (⟨#[]⟩ : ByteArray), .slice none 0 0, .int .i64 0] ?_; intro gb643 hg w39 hbox hb; replace HO604 := rb_ HO604 hb; replace HO609 := rb_ HO609 hb; replace HO613 := rb_ HO613 hb; replace HO618 := rb_ HO618 hb; replace HO621 := rb_ HO621 hb; replace HO626 := rb_ HO626 hb; replace HO632 := rb_ HO632 hb; replace HO635 := rb_ HO635 hb; replace HO640 := rb_ HO640 hb; have BK643 := Aside0.mk hbox; have GW643 := gg_ hg HB; have GE643 := GW643; replace HB := ss_ HB hb; have NB614_643 := nla_ hg BK614; have NB643_614 := nga_ hg BK614; replace BK614 := kl_ BK614 hb; have NB629_643 := nla_ hg BK629; have NB643_629 := nga_ hg BK629; replace BK629 := kl_ BK629 hb; clear hb hbox hg; obtain ⟨Ao40, co40, eo40⟩ := Kd.R_slice HO635.out; subst eo40; have hnb41 := NB643_614.out; have hnc41 := NB614_643.out; have hnb42 := NB643_629.out; have hnc42 := NB629_643.out; have hz43 := cz5_ BK643; obtain ⟨Ao44, co44, eo44⟩ := Kd.R_slice HO640.out; subst eo44; have hz45 := cz5_ BK614) | ((with_reducible refine gq_ 42 37 ?_); refine gc_ 37 Try.func42 (impl_MakeSure.calls k _ _ t602 t605 t606 _ _ t607 t610 t644 t647 t648 t649 t652 _ (chf_ HO604 BK643) (cl_ HO604) (chf_ HO609 BK643) (cl_ HO609) A10.out) ?_; rintro e w46 ⟨v645, v650, rfl, ho0, ho1, hb⟩; refine ⟨_, rfl, ?_⟩; replace HO613 := rbf_ HO613 BK643 hb; have HO646 := Aside0.mk (Kd.R_lower (Kd.R_new' (Kd.R_new' (Kd.R_new' ho0 (lf_ HO604 BK643)) (lf_ HO621 BK643)) (lf_ HO635 BK643)) (sz_ HB)); replace HO604 := ref_ HO604 BK643 ho0 hb; replace HO621 := ref_ HO621 BK643 ho0 hb; replace HO635 := ref_ HO635 BK643 ho0 hb; have HO651 := Aside0.mk (Kd.R_lower (Kd.R_new' (Kd.R_new' (Kd.R_new' (Kd.R_new' (Kd.R_new' ho1 (lf_ HO609 BK643)) (lf_ HO618 BK643)) (lf_ HO626 BK643)) (lf_ HO632 BK643)) (lf_ HO640 BK643)) (sz_ HB)); replace HO609 := ref_ HO609 BK643 ho1 hb; replace HO618 := ref_ HO618 BK643 ho1 hb; replace HO626 := ref_ HO626 BK643 ho1 hb; replace HO632 := ref_ HO632 BK643 ho1 hb; replace HO640 := ref_ HO640 BK643 ho1 hb; replace BK614 := kp_ BK614 hb; replace BK629 := kp_ BK629 hb; replace BK643 := kp_ BK643 hb; replace HB := ss_ HB hb; clear hb ho0 ho1; obtain ⟨Ao47, co47, eo47⟩ := Kd.R_slice HO646.out; subst eo47; obtain ⟨Ao48, co48, eo48⟩ := Kd.R_slice HO651.out; subst eo48) | ((with_reducible refine gq_ 40 38 ?_); refine gc_ 38 Try.func40 (impl_FallStore.calls _ _ t644 t647 t648 _ _ t649 t652 0 t653 _ (ch_ HO646) (cl_ HO646) (ch_ HO651) (cl_ HO651) A11.out) ?_; rintro e w49 ⟨v654, rfl, ho0, hb⟩; refine ⟨_, rfl, ?_⟩; replace HO604 := rb_ HO604 hb; replace HO613 := rb_ HO613 hb; replace HO621 := rb_ HO621 hb; replace HO635 := rb_ HO635 hb; replace HO646 := rb_ HO646 hb; have HO655 := Aside0.mk (Kd.R_lower (Kd.R_new' (Kd.R_new' (Kd.R_new' (Kd.R_new' (Kd.R_new' (Kd.R_new' ho0 (lt_ HO609)) (lt_ HO618)) (lt_ HO626)) (lt_ HO632)) (lt_ HO640)) (lt_ HO651)) (sz_ HB)); replace HO609 := re_ HO609 ho0 hb; replace HO618 := re_ HO618 ho0 hb; replace HO626 := re_ HO626 ho0 hb; replace HO632 := re_ HO632 ho0 hb; replace HO640 := re_ HO640 ho0 hb; replace HO651 := re_ HO651 ho0 hb; replace BK614 := kl_ BK614 hb; replace BK629 := kl_ BK629 hb; replace BK643 := kl_ BK643 hb; replace HB := ss_ HB hb; clear hb ho0; obtain ⟨Ao50, co50, eo50⟩ := Kd.R_slice HO655.out; subst eo50) | ((with_reducible refine gq_ 39 39 ?_); refine gc_ 39 Try.func39 (impl_OpenStore.calls k _ _ t611 _ _ t653 t656 t659 t660 t661 t664 t665 _ (ch_ HO613) (cl_ HO613) (ch_ HO655) (cl_ HO655) A12.out) ?_; rintro e w51 ⟨v657, v662, rfl, ho0, ho1, hb⟩; refine ⟨_, rfl, ?_⟩; replace HO613 := rb_ HO613 hb; have HO658 := Aside0.mk (Kd.R_lower (Kd.R_new' (Kd.R_new' (Kd.R_new' (Kd.R_new' ho0 (lt_ HO604)) (lt_ HO621)) (lt_ HO635)) (lt_ HO646)) (sz_ HB)); replace HO604 := re_ HO604 ho0 hb; replace HO621 := re_ HO621 ho0 hb; replace HO635 := re_ HO635 ho0 hb; replace HO646 := re_ HO646 ho0 hb; have HO663 := Aside0.mk (Kd.R_lower (Kd.R_new' (Kd.R_new' (Kd.R_new' (Kd.R_new' (Kd.R_new' (Kd.R_new' (Kd.R_new' ho1 (lt_ HO609)) (lt_ HO618)) (lt_ HO626)) (lt_ HO632)) (lt_ HO640)) (lt_ HO651)) (lt_ HO655)) (sz_ HB)); replace HO609 := re_ HO609 ho1 hb; replace HO618 := re_ HO618 ho1 hb; replace HO626 := re_ HO626 ho1 hb; replace HO632 := re_ HO632 ho1 hb; replace HO640 := re_ HO640 ho1 hb; replace HO651 := re_ HO651 ho1 hb; replace HO655 := re_ HO655 ho1 hb; replace BK614 := kl_ BK614 hb; replace BK629 := kl_ BK629 hb; replace BK643 := kl_ BK643 hb; replace HB := ss_ HB hb; clear hb ho0 ho1) | ((with_reducible refine gd_ 9 ?_); (try (refine gate_guard (by rfl) ?_; dsimp only)); refine bx_ 9 37 #[.slice none 0 0, .int .i64 0, .string (⟨#[]⟩ : ByteArray), .slice none 0 0, .int .i64 0] ?_; intro gb666 hg w52 hbox hb; replace HO604 := rb_ HO604 hb; replace HO609 := rb_ HO609 hb; replace HO613 := rb_ HO613 hb; replace HO618 := rb_ HO618 hb; replace HO621 := rb_ HO621 hb; replace HO626 := rb_ HO626 hb; replace HO632 := rb_ HO632 hb; replace HO635 := rb_ HO635 hb; replace HO640 := rb_ HO640 hb; replace HO646 := rb_ HO646 hb; replace HO651 := rb_ HO651 hb; replace HO655 := rb_ HO655 hb; replace HO658 := rb_ HO658 hb; replace HO663 := rb_ HO663 hb; have BK666 := Aside0.mk hbox; have GW666 := gg_ hg HB; have GE666 := GW666; replace HB := ss_ HB hb; have NB614_666 := nla_ hg BK614; have NB666_614 := nga_ hg BK614; replace BK614 := kl_ BK614 hb; have NB629_666 := nla_ hg BK629; have NB666_629 := nga_ hg BK629; replace BK629 := kl_ BK629 hb; have NB643_666 := nla_ hg BK643; have NB666_643 := nga_ hg BK643; replace BK643 := kl_ BK643 hb; clear hb hbox hg; obtain ⟨Ao53, co53, eo53⟩ := Kd.R_slice HO658.out; subst eo53; have hnb54 := NB666_614.out; have hnc54 := NB614_666.out; have hnb55 := NB666_629.out; have hnc55 := NB629_666.out; have hnb56 := NB666_643.out; have hnc56 := NB643_666.out; have hz57 := cz5_ BK666; obtain ⟨Ao58, co58, eo58⟩ := Kd.R_slice HO663.out; subst eo58))
  (try simp only [Act.put, List.setIfInBounds_toArray, List.set_cons_zero, List.set_cons_succ])
  go_cut [57] (fun v57 wc => ∃ (kq : Nat) (x57_12 : Bool), v57 = .bool x57_12 ∧ Aside0 (laws_FnRecovered.j0 kq x57_12 t602 t605 t606 t607 t610 t619 t622 t623 t624 t627 t633 t636 t637 t638 t641 t656 t659 t660 t661 t664 = some r) ∧ Aside0 (kq ≤ k) ∧ Aside0 (Kd.R Kd.string 9 wc w.heap.size (fun k_ => some k_ ≠ ((.slice Ao27 t619.length co27) : Value).ownBlock ∧ some k_ ≠ ((.slice Ao40 t633.length co40) : Value).ownBlock ∧ some k_ ≠ ((.slice Ao53 t656.length co53) : Value).ownBlock) (.slice Ao16 t602.length co16) t602) ∧ Aside0 (Kd.R (Kd.int .u8) 5 wc w.heap.size (fun k_ => some k_ ≠ ((.slice Ao31 t624.length co31) : Value).ownBlock ∧ some k_ ≠ ((.slice Ao44 t638.length co44) : Value).ownBlock ∧ some k_ ≠ ((.slice Ao58 t661.length co58) : Value).ownBlock) (.slice Ao18 t607.length co18) t607) ∧ Aside0 (Kd.R Kd.string 9 wc w.heap.size (fun k_ => some k_ ≠ ((.slice Ao16 t602.length co16) : Value).ownBlock ∧ some k_ ≠ ((.slice Ao40 t633.length co40) : Value).ownBlock ∧ some k_ ≠ ((.slice Ao53 t656.length co53) : Value).ownBlock) (.slice Ao27 t619.length co27) t619) ∧ Aside0 (Kd.R (Kd.int .u8) 5 wc w.heap.size (fun k_ => some k_ ≠ ((.slice Ao18 t607.length co18) : Value).ownBlock ∧ some k_ ≠ ((.slice Ao44 t638.length co44) : Value).ownBlock ∧ some k_ ≠ ((.slice Ao58 t661.length co58) : Value).ownBlock) (.slice Ao31 t624.length co31) t624) ∧ Aside0 (Kd.R Kd.string 9 wc w.heap.size (fun k_ => some k_ ≠ ((.slice Ao16 t602.length co16) : Value).ownBlock ∧ some k_ ≠ ((.slice Ao27 t619.length co27) : Value).ownBlock ∧ some k_ ≠ ((.slice Ao53 t656.length co53) : Value).ownBlock) (.slice Ao40 t633.length co40) t633) ∧ Aside0 (Kd.R (Kd.int .u8) 5 wc w.heap.size (fun k_ => some k_ ≠ ((.slice Ao18 t607.length co18) : Value).ownBlock ∧ some k_ ≠ ((.slice Ao31 t624.length co31) : Value).ownBlock ∧ some k_ ≠ ((.slice Ao58 t661.length co58) : Value).ownBlock) (.slice Ao44 t638.length co44) t638) ∧ Aside0 (Kd.R Kd.string 9 wc w.heap.size (fun k_ => some k_ ≠ ((.slice Ao16 t602.length co16) : Value).ownBlock ∧ some k_ ≠ ((.slice Ao27 t619.length co27) : Value).ownBlock ∧ some k_ ≠ ((.slice Ao40 t633.length co40) : Value).ownBlock) (.slice Ao53 t656.length co53) t656) ∧ Aside0 (Kd.R (Kd.int .u8) 5 wc w.heap.size (fun k_ => some k_ ≠ ((.slice Ao18 t607.length co18) : Value).ownBlock ∧ some k_ ≠ ((.slice Ao31 t624.length co31) : Value).ownBlock ∧ some k_ ≠ ((.slice Ao44 t638.length co44) : Value).ownBlock) (.slice Ao58 t661.length co58) t661) ∧ Aside0 (wc.heap[gb614]? = some (.cells #[(.slice Ao16 t602.length co16), .int .i64 t605, .string t606, (.slice Ao18 t607.length co18), .int .i64 t610] 37 (0, 0))) ∧ Aside0 (wc.heap[gb629]? = some (.cells #[(.slice Ao27 t619.length co27), .int .i64 t622, .string t623, (.slice Ao31 t624.length co31), .int .i64 t627] 37 (0, 0))) ∧ Aside0 (wc.heap[gb643]? = some (.cells #[(.slice Ao40 t633.length co40), .int .i64 t636, .string t637, (.slice Ao44 t638.length co44), .int .i64 t641] 37 (0, 0))) ∧ Aside0 (wc.heap[gb666]? = some (.cells #[(.slice Ao53 t656.length co53), .int .i64 t659, .string t660, (.slice Ao58 t661.length co58), .int .i64 t664] 37 (0, 0))) ∧ Aside0 (Below w.heap.size w wc))
  case first =>
   have H := HC13.out
   clear HC13
   replace H := bi_ H; obtain ⟨t667, A59, H⟩ := H
   replace H := itb_ H; obtain ⟨rfl, H⟩ | ⟨rfl, H⟩ := H
   ·replace H := bi_ H; obtain ⟨t668, A61, H⟩ := H
    replace H := itb_ H; obtain ⟨rfl, H⟩ | ⟨rfl, H⟩ := H
    ·have H' := Aside0.mk H
     clear H
     have hnb63 := NB614_629.out
     have hnc63 := NB629_614.out
     have hnb64 := NB614_643.out
     have hnc64 := NB643_614.out
     have hnb65 := NB614_666.out
     have hnc65 := NB666_614.out
     have hz66 := cz5_ BK614
     go_wp2_with (first | ((with_reducible refine gq_ 19 43 ?_); refine gc_ 43 Try.func19 (impl_StoreOk.calls k _ _ t602 t605 t606 _ _ t607 t610 true _ (chf_ HO604 BK666) (cl_ HO604) (chf_ HO609 BK666) (cl_ HO609) A59.out) ?_; rintro e w67 ⟨rfl, hb⟩; refine ⟨_, rfl, ?_⟩; replace HO604 := rbf_ HO604 BK666 hb; replace HO609 := rbf_ HO609 BK666 hb; replace HO613 := rbf_ HO613 BK666 hb; replace HO618 := rbf_ HO618 BK666 hb; replace HO621 := rbf_ HO621 BK666 hb; replace HO626 := rbf_ HO626 BK666 hb; replace HO632 := rbf_ HO632 BK666 hb; replace HO635 := rbf_ HO635 BK666 hb; replace HO640 := rbf_ HO640 BK666 hb; replace HO646 := rbf_ HO646 BK666 hb; replace HO651 := rbf_ HO651 BK666 hb; replace HO655 := rbf_ HO655 BK666 hb; replace HO658 := rbf_ HO658 BK666 hb; replace HO663 := rbf_ HO663 BK666 hb; replace BK614 := kp_ BK614 hb; replace BK629 := kp_ BK629 hb; replace BK643 := kp_ BK643 hb; replace BK666 := kp_ BK666 hb; replace HB := ss_ HB hb; clear hb; have hnb68 := NB629_643.out; have hnc68 := NB643_629.out; have hnb69 := NB629_666.out; have hnc69 := NB666_629.out; have hz70 := cz5_ BK629) | (go_at_call 19; (with_reducible refine (impl_StoreOk.calls k _ _ t619 t622 t623 _ _ t624 t627 true _ ?side1 ?side2 ?side3 ?side4 A61.out).mono ?_); (case side1 => exact ch_ HO621); (case side2 => exact (cl_ HO621)); (case side3 => exact ch_ HO626); (case side4 => exact (cl_ HO626)); rintro e w71 ⟨rfl, hb⟩; replace HO604 := rb_ HO604 hb; replace HO609 := rb_ HO609 hb; replace HO613 := rb_ HO613 hb; replace HO618 := rb_ HO618 hb; replace HO621 := rb_ HO621 hb; replace HO626 := rb_ HO626 hb; replace HO632 := rb_ HO632 hb; replace HO635 := rb_ HO635 hb; replace HO640 := rb_ HO640 hb; replace HO646 := rb_ HO646 hb; replace HO651 := rb_ HO651 hb; replace HO655 := rb_ HO655 hb; replace HO658 := rb_ HO658 hb; replace HO663 := rb_ HO663 hb; replace BK614 := kl_ BK614 hb; replace BK629 := kl_ BK629 hb; replace BK643 := kl_ BK643 hb; replace BK666 := kl_ BK666 hb; replace HB := ss_ HB hb; clear hb; have hz72 := cz5_ BK629))
     go_meet
     case rel => exact ⟨_, ((t627 != (t624.length : Int))), e1_, H', ⟨le_⟩, ⟨by (with_reducible repeat (first | apply Kd.R_alloc | apply Kd.R_drewN | apply Kd.R_drew)); exact Kd.R_mono HO604.out (fun _ hk => ⟨hk.1.1.1, ⟨hk.1.1.2, hk.2⟩⟩)⟩, ⟨by (with_reducible repeat (first | apply Kd.R_alloc | apply Kd.R_drewN | apply Kd.R_drew)); exact Kd.R_mono HO609.out (fun _ hk => ⟨hk.1.1.1.1.1.2, ⟨hk.1.1.1.2, hk.2⟩⟩)⟩, ⟨by (with_reducible repeat (first | apply Kd.R_alloc | apply Kd.R_drewN | apply Kd.R_drew)); exact Kd.R_mono HO621.out (fun _ hk => ⟨hk.1.1.1, ⟨hk.1.1.2, hk.2⟩⟩)⟩, ⟨by (with_reducible repeat (first | apply Kd.R_alloc | apply Kd.R_drewN | apply Kd.R_drew)); exact Kd.R_mono HO626.out (fun _ hk => ⟨hk.1.1.1.1.1.1, ⟨hk.1.1.1.2, hk.2⟩⟩)⟩, ⟨by (with_reducible repeat (first | apply Kd.R_alloc | apply Kd.R_drewN | apply Kd.R_drew)); exact Kd.R_mono HO635.out (fun _ hk => ⟨hk.1.1.1.2, ⟨hk.1.1.2, hk.2⟩⟩)⟩, ⟨by (with_reducible repeat (first | apply Kd.R_alloc | apply Kd.R_drewN | apply Kd.R_drew)); exact Kd.R_mono HO640.out (fun _ hk => ⟨hk.1.1.1.1.1.1.2, ⟨hk.1.1.1.1.2, hk.2⟩⟩)⟩, ⟨by (with_reducible repeat (first | apply Kd.R_alloc | apply Kd.R_drewN | apply Kd.R_drew)); exact Kd.R_mono HO658.out (fun _ hk => ⟨hk.1.1.1.2, ⟨hk.1.1.2, hk.1.2⟩⟩)⟩, ⟨by (with_reducible repeat (first | apply Kd.R_alloc | apply Kd.R_drewN | apply Kd.R_drew)); exact Kd.R_mono HO663.out (fun _ hk => ⟨hk.1.1.1.1.1.1.2, ⟨hk.1.1.1.1.2, hk.1.1.2⟩⟩)⟩, ⟨kb_ BK614.out⟩, ⟨kb_ BK629.out⟩, ⟨kb_ BK643.out⟩, ⟨kb_ BK666.out⟩, ⟨bw_ HB⟩⟩
    ·have H' := Aside0.mk H
     clear H
     have hnb73 := NB614_629.out
     have hnc73 := NB629_614.out
     have hnb74 := NB614_643.out
     have hnc74 := NB643_614.out
     have hnb75 := NB614_666.out
     have hnc75 := NB666_614.out
     have hz76 := cz5_ BK614
     go_wp2_with (first | ((with_reducible refine gq_ 19 43 ?_); refine gc_ 43 Try.func19 (impl_StoreOk.calls k _ _ t602 t605 t606 _ _ t607 t610 true _ (chf_ HO604 BK666) (cl_ HO604) (chf_ HO609 BK666) (cl_ HO609) A59.out) ?_; rintro e w77 ⟨rfl, hb⟩; refine ⟨_, rfl, ?_⟩; replace HO604 := rbf_ HO604 BK666 hb; replace HO609 := rbf_ HO609 BK666 hb; replace HO613 := rbf_ HO613 BK666 hb; replace HO618 := rbf_ HO618 BK666 hb; replace HO621 := rbf_ HO621 BK666 hb; replace HO626 := rbf_ HO626 BK666 hb; replace HO632 := rbf_ HO632 BK666 hb; replace HO635 := rbf_ HO635 BK666 hb; replace HO640 := rbf_ HO640 BK666 hb; replace HO646 := rbf_ HO646 BK666 hb; replace HO651 := rbf_ HO651 BK666 hb; replace HO655 := rbf_ HO655 BK666 hb; replace HO658 := rbf_ HO658 BK666 hb; replace HO663 := rbf_ HO663 BK666 hb; replace BK614 := kp_ BK614 hb; replace BK629 := kp_ BK629 hb; replace BK643 := kp_ BK643 hb; replace BK666 := kp_ BK666 hb; replace HB := ss_ HB hb; clear hb; have hnb78 := NB629_643.out; have hnc78 := NB643_629.out; have hnb79 := NB629_666.out; have hnc79 := NB666_629.out; have hz80 := cz5_ BK629) | (go_at_call 19; (with_reducible refine (impl_StoreOk.calls k _ _ t619 t622 t623 _ _ t624 t627 false _ ?side1 ?side2 ?side3 ?side4 A61.out).mono ?_); (case side1 => exact ch_ HO621); (case side2 => exact (cl_ HO621)); (case side3 => exact ch_ HO626); (case side4 => exact (cl_ HO626)); rintro e w81 ⟨rfl, hb⟩; replace HO604 := rb_ HO604 hb; replace HO609 := rb_ HO609 hb; replace HO613 := rb_ HO613 hb; replace HO618 := rb_ HO618 hb; replace HO621 := rb_ HO621 hb; replace HO626 := rb_ HO626 hb; replace HO632 := rb_ HO632 hb; replace HO635 := rb_ HO635 hb; replace HO640 := rb_ HO640 hb; replace HO646 := rb_ HO646 hb; replace HO651 := rb_ HO651 hb; replace HO655 := rb_ HO655 hb; replace HO658 := rb_ HO658 hb; replace HO663 := rb_ HO663 hb; replace BK614 := kl_ BK614 hb; replace BK629 := kl_ BK629 hb; replace BK643 := kl_ BK643 hb; replace BK666 := kl_ BK666 hb; replace HB := ss_ HB hb; clear hb))
     go_meet
     case rel => exact ⟨_, (true), e1_, H', ⟨le_⟩, ⟨by (with_reducible repeat (first | apply Kd.R_alloc | apply Kd.R_drewN | apply Kd.R_drew)); exact Kd.R_mono HO604.out (fun _ hk => ⟨hk.1.1.1, ⟨hk.1.1.2, hk.2⟩⟩)⟩, ⟨by (with_reducible repeat (first | apply Kd.R_alloc | apply Kd.R_drewN | apply Kd.R_drew)); exact Kd.R_mono HO609.out (fun _ hk => ⟨hk.1.1.1.1.1.2, ⟨hk.1.1.1.2, hk.2⟩⟩)⟩, ⟨by (with_reducible repeat (first | apply Kd.R_alloc | apply Kd.R_drewN | apply Kd.R_drew)); exact Kd.R_mono HO621.out (fun _ hk => ⟨hk.1.1.1, ⟨hk.1.1.2, hk.2⟩⟩)⟩, ⟨by (with_reducible repeat (first | apply Kd.R_alloc | apply Kd.R_drewN | apply Kd.R_drew)); exact Kd.R_mono HO626.out (fun _ hk => ⟨hk.1.1.1.1.1.1, ⟨hk.1.1.1.2, hk.2⟩⟩)⟩, ⟨by (with_reducible repeat (first | apply Kd.R_alloc | apply Kd.R_drewN | apply Kd.R_drew)); exact Kd.R_mono HO635.out (fun _ hk => ⟨hk.1.1.1.2, ⟨hk.1.1.2, hk.2⟩⟩)⟩, ⟨by (with_reducible repeat (first | apply Kd.R_alloc | apply Kd.R_drewN | apply Kd.R_drew)); exact Kd.R_mono HO640.out (fun _ hk => ⟨hk.1.1.1.1.1.1.2, ⟨hk.1.1.1.1.2, hk.2⟩⟩)⟩, ⟨by (with_reducible repeat (first | apply Kd.R_alloc | apply Kd.R_drewN | apply Kd.R_drew)); exact Kd.R_mono HO658.out (fun _ hk => ⟨hk.1.1.1.2, ⟨hk.1.1.2, hk.1.2⟩⟩)⟩, ⟨by (with_reducible repeat (first | apply Kd.R_alloc | apply Kd.R_drewN | apply Kd.R_drew)); exact Kd.R_mono HO663.out (fun _ hk => ⟨hk.1.1.1.1.1.1.2, ⟨hk.1.1.1.1.2, hk.1.1.2⟩⟩)⟩, ⟨kb_ BK614.out⟩, ⟨kb_ BK629.out⟩, ⟨kb_ BK643.out⟩, ⟨kb_ BK666.out⟩, ⟨bw_ HB⟩⟩
   ·have H' := Aside0.mk H
    clear H
    have hnb82 := NB614_629.out
    have hnc82 := NB629_614.out
    have hnb83 := NB614_643.out
    have hnc83 := NB643_614.out
    have hnb84 := NB614_666.out
    have hnc84 := NB666_614.out
    have hz85 := cz5_ BK614
    go_wp2_with (first | ((with_reducible refine gq_ 19 43 ?_); refine gc_ 43 Try.func19 (impl_StoreOk.calls k _ _ t602 t605 t606 _ _ t607 t610 false _ (chf_ HO604 BK666) (cl_ HO604) (chf_ HO609 BK666) (cl_ HO609) A59.out) ?_; rintro e w86 ⟨rfl, hb⟩; refine ⟨_, rfl, ?_⟩; replace HO604 := rbf_ HO604 BK666 hb; replace HO609 := rbf_ HO609 BK666 hb; replace HO613 := rbf_ HO613 BK666 hb; replace HO618 := rbf_ HO618 BK666 hb; replace HO621 := rbf_ HO621 BK666 hb; replace HO626 := rbf_ HO626 BK666 hb; replace HO632 := rbf_ HO632 BK666 hb; replace HO635 := rbf_ HO635 BK666 hb; replace HO640 := rbf_ HO640 BK666 hb; replace HO646 := rbf_ HO646 BK666 hb; replace HO651 := rbf_ HO651 BK666 hb; replace HO655 := rbf_ HO655 BK666 hb; replace HO658 := rbf_ HO658 BK666 hb; replace HO663 := rbf_ HO663 BK666 hb; replace BK614 := kp_ BK614 hb; replace BK629 := kp_ BK629 hb; replace BK643 := kp_ BK643 hb; replace BK666 := kp_ BK666 hb; replace HB := ss_ HB hb; clear hb))
    go_meet
    case rel => exact ⟨_, (true), e1_, H', ⟨le_⟩, ⟨by (with_reducible repeat (first | apply Kd.R_alloc | apply Kd.R_drewN | apply Kd.R_drew)); exact Kd.R_mono HO604.out (fun _ hk => ⟨hk.1.1.1, ⟨hk.1.1.2, hk.2⟩⟩)⟩, ⟨by (with_reducible repeat (first | apply Kd.R_alloc | apply Kd.R_drewN | apply Kd.R_drew)); exact Kd.R_mono HO609.out (fun _ hk => ⟨hk.1.1.1.1.1.2, ⟨hk.1.1.1.2, hk.2⟩⟩)⟩, ⟨by (with_reducible repeat (first | apply Kd.R_alloc | apply Kd.R_drewN | apply Kd.R_drew)); exact Kd.R_mono HO621.out (fun _ hk => ⟨hk.1.1.1, ⟨hk.1.1.2, hk.2⟩⟩)⟩, ⟨by (with_reducible repeat (first | apply Kd.R_alloc | apply Kd.R_drewN | apply Kd.R_drew)); exact Kd.R_mono HO626.out (fun _ hk => ⟨hk.1.1.1.1.1.1, ⟨hk.1.1.1.2, hk.2⟩⟩)⟩, ⟨by (with_reducible repeat (first | apply Kd.R_alloc | apply Kd.R_drewN | apply Kd.R_drew)); exact Kd.R_mono HO635.out (fun _ hk => ⟨hk.1.1.1.2, ⟨hk.1.1.2, hk.2⟩⟩)⟩, ⟨by (with_reducible repeat (first | apply Kd.R_alloc | apply Kd.R_drewN | apply Kd.R_drew)); exact Kd.R_mono HO640.out (fun _ hk => ⟨hk.1.1.1.1.1.1.2, ⟨hk.1.1.1.1.2, hk.2⟩⟩)⟩, ⟨by (with_reducible repeat (first | apply Kd.R_alloc | apply Kd.R_drewN | apply Kd.R_drew)); exact Kd.R_mono HO658.out (fun _ hk => ⟨hk.1.1.1.2, ⟨hk.1.1.2, hk.1.2⟩⟩)⟩, ⟨by (with_reducible repeat (first | apply Kd.R_alloc | apply Kd.R_drewN | apply Kd.R_drew)); exact Kd.R_mono HO663.out (fun _ hk => ⟨hk.1.1.1.1.1.1.2, ⟨hk.1.1.1.1.2, hk.1.1.2⟩⟩)⟩, ⟨kb_ BK614.out⟩, ⟨kb_ BK629.out⟩, ⟨kb_ BK643.out⟩, ⟨kb_ BK666.out⟩, ⟨bw_ HB⟩⟩
  case rest =>
   clear HC13
   try clear hz35
   try clear hz43
   try clear hz45
   try clear hz57
   obtain ⟨kq, x57_12, rfl, HA, HJ12, HO_615000, HO_615003, HO_630000, HO_630003, HO_644000, HO_644003, HO_667000, HO_667003, BK614, BK629, BK643, BK666, HB⟩ := hcut
   cases kq with
   | zero => exact absurd HA.out (by simp [laws_FnRecovered.j0])
   | succ kj12 =>
    have H := HA.out
    clear HA
    simp only [laws_FnRecovered.j0] at H
    replace H := inb_ H; obtain ⟨rfl, H⟩ := H
    replace H := bi_ H; obtain ⟨t669, A88, H⟩ := H
    replace H := ipb_ H; obtain ⟨rfl, H⟩ := H
    replace H := bi_ H; obtain ⟨t670, A90, H⟩ := H
    replace H := ipb_ H; obtain ⟨rfl, H⟩ := H
    replace H := bi_ H; obtain ⟨t671, A92, H⟩ := H
    replace H := ipb_ H; obtain ⟨rfl, H⟩ := H
    obtain rfl := Option.some.inj H
    have hnb94 := NB643_614.out
    have hnc94 := NB614_643.out
    have hnb95 := NB643_629.out
    have hnc95 := NB629_643.out
    have hnb96 := NB643_666.out
    have hnc96 := NB666_643.out
    have hz97 := cz5_ BK643
    have hnb98 := NB629_614.out
    have hnc98 := NB614_629.out
    have hnb99 := NB629_666.out
    have hnc99 := NB666_629.out
    have hz100 := cz5_ BK629
    go_wp2_with (first | ((with_reducible refine gq_ 43 64 ?_); refine gc_ 64 Try.func43 (laws_begins.calls kj12 _ _ t633 _ _ t619 true _ (ch_ HO_644000) (cl_ HO_644000) (ch_ HO_630000) (cl_ HO_630000) A88.out) ?_; rintro e w' ⟨rfl, ⟨nd, rfl⟩⟩; refine ⟨_, rfl, ?_⟩; have hnb101 := NB614_666.out; have hnc101 := NB666_614.out; have hz102 := cz5_ BK614) | (go_at_call 43; (with_reducible refine (laws_begins.calls kj12 _ _ t619 _ _ t602 true _ ?side1 ?side2 ?side3 ?side4 A90.out).mono ?_); (case side1 => exact ch_ HO_630000); (case side2 => exact (cl_ HO_630000)); (case side3 => exact ch_ HO_615000); (case side4 => exact (cl_ HO_615000)); rintro e w' ⟨rfl, ⟨nd, rfl⟩⟩; have hz103 := cz5_ BK666) | (go_at_call 18; (with_reducible refine (laws_sameTexts.calls kj12 _ _ t656 _ _ t602 true _ ?side1 ?side2 ?side3 ?side4 A92.out).mono ?_); (case side1 => exact ch_ HO_667000); (case side2 => exact (cl_ HO_667000)); (case side3 => exact ch_ HO_615000); (case side4 => exact (cl_ HO_615000)); rintro e w' ⟨rfl, ⟨nd, rfl⟩⟩))
    go_ret
    exact ⟨e2_, bw_ HB⟩
end Go.Proofs.Ytjnnglphdaemaaa.Q
end

section
/- The row of the law FnRecovered out of its pure statement and the printed walk. -/
namespace Go.Proofs.Ytjnnglphdaemaaa.Q
open Go.RowKit Go.Proofs.Ytjnnglphdaemaaa.XO Go.Proofs.YtjnnglphdaemaaaW.PrintWords Go.ChangeShapes Go.WideShapes Go.ChangeAt
set_option linter.unusedVariables false
set_option linter.unusedSimpArgs false
def laws_FnRecovered.Pure : Prop := ∀ (x0 : List Int), (x0.length ≤ 9223372036854775807 ∧ ∀ y0 ∈ x0, (Lit.int .u8 y0).wf = true) → ∃ k, laws_FnRecovered.f k x0 = some true
namespace RFnRecovered
theorem own : ownKnob Try.prog.godebug = none := by kernel_rfl
theorem laidOut : laidOutB Try.prog = true := by kernel_rfl
set_option maxRecDepth 100000 in
theorem lifted (PU : laws_FnRecovered.Pure) (os : Os) (started : os.Started) (H : Type) (enc : TypeId × Value → H) :
  ReturnsInHanded {} Try.checked os 6 .any (Rows.fnRecoveredSpec.pre6 enc Try.prog Try.f6 Rows.fnRecoveredRow.domain false) (Rows.fnRecoveredSpec.post enc Try.prog Try.f6 false true false false) := by
 refine returnsInHanded_of_change_sized (C := Try.checked) own started (by kernel_rfl) Try.func6
  (ChangeSpec.witness6 (enc := enc) (C := Try.checked) false ⟨#[], #[.slice none 0 0], []⟩ 8 (by kernel_rfl) (by kernel_rfl) (by kernel_rfl) (by kernel_rfl)) ?_
 intro W base args ds gs before hval0 hW hcnd hsz0 _
 have hval : ∀ (j : Nat) t v, Try.f6.params[j]? = some t → args[j]? = some v → Value.okWide Try.prog W .any base t v := hval0
 have hW' := hW
 obtain ⟨p, q, hA0, hV, rfl, hfz, hnd⟩ := hW
 have hA : DataW.TrodAll enc Try.prog W 0 (fun _ => true) true Try.f6.params.toList args.toList ds p := hA0
 rw [Try.params6] at hA hval
 obtain ⟨v0, vs0, d0, ds0, p0, q0, hargs, rfl, rfl, h0, r0⟩ := trodAll_cons hA
 obtain ⟨rfl, rfl, rfl⟩ := trodAll_nil r0
 obtain rfl : args = #[v0] := by cases args; simp_all
 obtain ⟨rfl, rfl⟩ := trodVars_none hV
 have kk0 := h0
 have lt0 : ∀ x ∈ p0, x.block < W.heap.size := by obtain ⟨m, hm⟩ := kk0; exact DataW.trod_lt m _ _ _ hm
 obtain ⟨A0, len0, c0, rfl⟩ := okWide_slice Try.underlying22 (hval 0 22 v0 rfl rfl)
 obtain ⟨fu0, hf0⟩ := h0
 obtain ⟨x0, ⟨A0', c0', he0, hc0, hr0⟩, g0⟩ := (opens_slice Try.underlying22 (by kernel_rfl) (opens_int Try.underlying5)) hf0
 obtain ⟨rfl, rfl, rfl⟩ : A0 = A0' ∧ len0 = x0.length ∧ c0 = c0' := by simpa [Value.cells] using he0
 clear hA0 hval0 hsz0
 obtain ⟨k, hp⟩ := PU x0 g0
 refine (laws_FnRecovered.calls k _ _ x0 true W hr0 hc0 hp).mono fun e W' ⟨he, bel0⟩ => ?_
 have bel : Below W.heap.size W W' := bel0
 subst he
 exact ⟨_, rfl, _, _, _, [], _, [], hW', trodAll_mk1 (shut_bool Try.underlying4 _), (trodAll_cons_mk (Below.trod laidOut (by kernel_rfl) (of_decide_eq_true (by kernel_rfl)) kk0 bel lt0) trodAll_mk0), rfl, bel.frame _, fun h => by cases h⟩
theorem over (PU : laws_FnRecovered.Pure) : Rows.fnRecoveredRow.holds Try.pinned (OpenSpec.ofChange Rows.fnRecoveredSpec) :=
 OpenClaim.holds_of_wide 6 Try.f6 rfl rfl rfl rfl rfl rfl rfl ⟨rfl, rfl, rfl, rfl, rfl⟩ rfl rfl rfl rfl rfl (by kernel_rfl) Try.func6 (by kernel_rfl)
  (of_decide_eq_true (by kernel_rfl)) (by unfold Func.isWrapper; first | (rw [if_pos (by decide +kernel)]; kernel_rfl) | (rw [if_neg (by decide +kernel)]; exact ⟨rfl, rfl⟩))
  (fun os started H enc _ => lifted PU os started H enc)
end RFnRecovered
theorem FnRecovered_row (PU : laws_FnRecovered.Pure) : Rows.FnRecoveredSaid := RFnRecovered.over PU
end Go.Proofs.Ytjnnglphdaemaaa.Q
end

section
/- What is opened behind a fall is a right store, all of it sure, that begins the store; what was made sure comes back whole; no condition. -/
namespace Go.Proofs.Ytjnnglphdaemaaa.Q
open Go.RowKit Go.Proofs.Ytjnnglphdaemaaa.B Go.Proofs.YtjnnglphdaemaaaW.PrintWords
set_option linter.unusedVariables false
set_option linter.unusedSimpArgs false
theorem opened_on {t : List IHead} {l : List ByteArray} {b : List Int} {L : List ByteArray} {m : List Int} {c : Nat} (o : Opened t l b L m c) : ∃ e, L = l ++ e := by
 induction o with
 | stop h => exact ⟨[], by simp⟩
 | @step l r L m c N s x hk h1 h2 hs hg o ih =>
  obtain ⟨e, he⟩ := ih
  exact ⟨x ++ e, by rw [he, List.append_assoc]⟩
theorem opened_pre {t : List IHead} {l : List ByteArray} {b : List Int} {L : List ByteArray} {m : List Int} {c : Nat} (o : Opened t l b L m c) : ∀ {b2 : List Int} {L2 : List ByteArray} {m2 : List Int} {c2 : Nat}, Opened t l (b ++ b2) L2 m2 c2 → ∃ e, L2 = L ++ e := by
 induction o with
 | stop h => exact fun o2 => opened_on o2
 | @step l r L m c N s x hk h1 h2 hs hg o ih =>
  intro b2 L2 m2 c2 o2
  rw [List.append_assoc] at o2
  generalize hb : commitB N s x ++ (r ++ b2) = bb at o2
  cases o2 with
  | stop h => exact absurd hg (h N s x (r ++ b2) hb.symm hk h1 h2 hs)
  | @step _ r' _ m' c' N' s' x' hk' h1' h2' hs' hg' o2 =>
   obtain ⟨rfl, rfl, rfl, rfl⟩ := commitB_inj hb
   exact ih o2
theorem opened_one {t : List IHead} {l : List ByteArray} {b : List Int} {L : List ByteArray} {m : List Int} {c : Nat} (o : Opened t l b L m c) {L2 : List ByteArray} {m2 : List Int} {c2 : Nat} (o2 : Opened t l b L2 m2 c2) : L2 = L := by
 obtain ⟨e, he⟩ := opened_pre o (b2 := []) (by rw [List.append_nil]; exact o2)
 obtain ⟨f, hf⟩ := opened_pre o2 (b2 := []) (by rw [List.append_nil]; exact o)
 have h1 : L2.length = L.length + e.length := by rw [he, List.length_append]
 have h2 : L.length = L2.length + f.length := by rw [← List.length_append, ← hf]
 have : e = [] := List.length_eq_zero_iff.1 (by omega)
 rw [he, this, List.append_nil]
theorem opened_inB {t : List IHead} {l : List ByteArray} {b : List Int} {L : List ByteArray} {m : List Int} {c : Nat} (o : Opened t l b L m c) : InB b → InB m := by
 induction o with
 | stop h => exact fun _ => by simp [InB]
 | step hk h1 h2 hs hg o ih => exact fun h => inB_app (fun x hx => h x (List.mem_append_left _ hx)) (ih (fun x hx => h x (List.mem_append_right _ hx)))
theorem makeSure_ok (t : List IHead) (b : List Int) (hb : InB b) (hl : b.length ≤ 60000) {L : List ByteArray} {c : Nat} (o : Opened t [] b L b c) (u : Int) (h0 : 0 ≤ u) (h1 : u ≤ b.length) (hL : L.length ≤ 200) : Ev (fun k => impl_MakeSure.f k L (headOf L).1 (headOf L).2 b u) (L, (headOf L).1, (headOf L).2, b, (b.length : Int)) := by
 have c2 := impl_copyStore_eq L (headOf L).1 (headOf L).2 b u (by omega) (by omega)
 unfold impl_MakeSure.f
 simp only [c2, Option.bind_some]
 exact Ev.bind (storeOk_opened t b hb hl o u h0 h1) (Ev.pos rfl (Ev.now _))
theorem first_take {b : List Int} (n : Nat) (h : b.length ≤ 60000) : firstB (b.take n) = b.take n := by
 unfold firstB
 exact List.take_of_length_le (by rw [List.length_take]; omega)
theorem inB_first9 {b : List Int} (n : Nat) (h : InB b) : InB (b.take n) := fun x hx => h x (List.mem_of_mem_take hx)
theorem at_some (l : List Int) : ∃ v, laws_at.f l 2 = some v := by
 unfold laws_at.f
 by_cases h : (2 : Int) < (l.length : Int)
 ·rw [if_pos h, if_pos (by omega)]
  exact ⟨_, rfl⟩
 ·rw [if_neg h]
  exact ⟨_, rfl⟩
theorem opened_take (t : List IHead) (ht : t.length ≤ 9223372036854775807) {b : List Int} (hb : InB b) (hl : b.length ≤ 60000) (n : Nat) : ∃ L m c, Opened t [] (b.take n) L m c ∧ Ev (fun k => impl_OpenStore.f k t (b.take n)) (L, (headOf L).1, (headOf L).2, m, (m.length : Int), (c : Int)) ∧ L.length ≤ 200 ∧ m.length ≤ 60000 ∧ InB m := by
 obtain ⟨L, m, c, o⟩ := opened_some t (b.take n).length [] (b.take n) (Nat.le_refl _)
 have o2 : Opened t [] (firstB (b.take n)) L m c := by
  rw [first_take n hl]
  exact o
 obtain ⟨_, q2, h1, _, h3⟩ := openStore_ev t ht (b.take n) (inB_first9 n hb) o2
 exact ⟨L, m, c, o, q2, h1, h3, opened_inB o (inB_first9 n hb)⟩
theorem pure_FnRecovered : laws_FnRecovered.Pure := by
 intro l0 g0
 refine Ev.rounds (g := fun k => laws_FnRecovered.f k l0) ?_
 unfold laws_FnRecovered.f laws_big.f
 by_cases hbig : (l0.length : Int) > 1048576
 ·exact Ev.pos (decide_eq_true hbig) (Ev.now _)
 ·refine Ev.neg (by rw [decide_eq_true_eq]; exact hbig) ?_
  obtain ⟨h, hN⟩ := l1New_ev l0 (by omega)
  obtain ⟨l, b, u, all, t, i', h', hD, hS, _, a1, a2, a3, ht⟩ := l12Draw_ev (s := l0) (i := 0) h (Drawer.new (by omega))
  obtain ⟨v, hv⟩ := at_some l0
  obtain ⟨c, o⟩ := hS.opened
  have hb := hS.bytes
  have hl : b.length ≤ 3000 := hS.small
  obtain ⟨u0, u1⟩ := hS.sure
  have hll : l.length ≤ 200 := by
   obtain ⟨n, hn⟩ := hS.begins
   rw [hn, List.length_take]
   omega
  have f1 := impl_FallStore_eq l (headOf l).1 (headOf l).2 b u v (by omega)
  have f2 := impl_FallStore_eq l (headOf l).1 (headOf l).2 b u 0 (by omega)
  have f3 := impl_FallStore_eq l (headOf l).1 (headOf l).2 b (b.length : Int) 0 (by omega)
  have e1 : ∃ p : Nat, u.toNat ≤ p ∧ fallOf b u v = b.take p := ⟨_, by unfold fallAt; omega, rfl⟩
  obtain ⟨p, hp, e1⟩ := e1
  have e2 : fallOf b u 0 = b.take u.toNat := by
   unfold fallOf fallAt
   congr 1
   omega
  have e3 : fallOf b (b.length : Int) 0 = b := by
   unfold fallOf fallAt
   exact List.take_of_length_le (by omega)
  rw [e1] at f1
  rw [e2] at f2
  rw [e3] at f3
  obtain ⟨L1, m1, c1, o1, q1, l1, k1, b1⟩ := opened_take t (by omega) hb (by omega) p
  obtain ⟨L2, m2, c2, o2, q2, l2, k2, b2⟩ := opened_take t (by omega) hb (by omega) u.toNat
  obtain ⟨L3, m3, c3, o3, q3, l3, k3, b3⟩ := opened_take t (by omega) hb (by omega) b.length
  rw [List.take_length] at o3 q3
  obtain ⟨x, hx⟩ : ∃ e, L1 = L2 ++ e := opened_pre o2 (b2 := (b.take p).drop u.toNat) (by
   have : (b.take p).take u.toNat = b.take u.toNat := by rw [List.take_take, Nat.min_eq_left hp]
   rw [← this, List.take_append_drop]
   exact o1)
  obtain ⟨y, hy⟩ : ∃ e, l = L1 ++ e := opened_pre o1 (b2 := b.drop p) (by
   rw [List.take_append_drop]
   exact o)
  have h3 : L3 = l := opened_one o o3
  have s1 := storeOk_opened t b hb (by omega) o u u0 u1
  have s2 := storeOk_opened t m1 b1 k1 (opened_self o1) (m1.length : Int) (by omega) (Int.le_refl _)
  have s3 := makeSure_ok t b hb (by omega) o u u0 u1 hll
  have g1 := begins_ev L2 x (by rw [← hx]; omega)
  rw [← hx] at g1
  have g2 := begins_ev L1 y (by rw [← hy]; omega)
  rw [← hy] at g2
  have g3 := laws_same_ev l l (by omega)
  rw [decide_eq_true rfl] at g3
  subst h3
  have hDS : Ev (fun k => spec_DrawStored.f k l0) (L3, (headOf L3).1, (headOf L3).2, b, u, t) := by
   unfold spec_DrawStored.f
   exact Ev.bind hN (Ev.bind hD (Ev.now _))
  refine Ev.bind hDS (Ev.bind (Ev.const hv) (Ev.bind (Ev.const f1) (Ev.bind q1 (Ev.bind (Ev.const f2) (Ev.bind q2 (Ev.bind s3 (Ev.bind (Ev.const f3) (Ev.bind q3 (Ev.bind s1 (Ev.pos rfl (Ev.bind s2 (Ev.pos rfl ?_))))))))))))
  refine Ev.step (fun k => by simp only [laws_FnRecovered.j0]; rfl) ?_
  refine Ev.neg (by simp) (Ev.bind g1 (Ev.pos rfl (Ev.bind g2 (Ev.pos rfl (Ev.bind g3 (Ev.pos rfl ?_))))))
  simp only [beq_self_eq_true, Bool.and_self]
  exact Ev.now _
end Go.Proofs.Ytjnnglphdaemaaa.Q
namespace Go.Proofs.Ytjnnglphdaemaaa
theorem fnRecovered_holds : Rows.FnRecoveredSaid := Q.FnRecovered_row Q.pure_FnRecovered
end Go.Proofs.Ytjnnglphdaemaaa
end
