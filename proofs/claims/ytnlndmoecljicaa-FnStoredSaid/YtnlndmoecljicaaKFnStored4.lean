-- Joined and shortened by a program of this session (wip/tools/shakecopy.py): the words of the print, texts of pp.sh and of mine.
import Derived.Test.YtnlndmoecljicaaKFnStored3
import Derived.RangeFuncNested
import Derived.RangeFuncBound
import Derived.RangeFuncCalls
import Derived.RangeFuncLeaves
import Derived.Shelf.Abstract
import Derived.Shelf.RegionOpen
import Derived.WalkKit
import Derived.OwnWalkIn
import Derived.TacticsInMore
import Derived.LoopNIn
import Derived.LoopIn
import Derived.WalkLawsBesides
import Derived.IntWalk
import Derived.RegionIn
import Derived.Outline
set_option linter.unusedVariables false
set_option linter.unusedSimpArgs false
section
namespace Go.Proofs.Ytnlndmoecljicaa.Q
open Go.Proofs.YtnlndmoecljicaaW.PrintLast Go.Proofs.YtnlndmoecljicaaW.PrintMore Go.Proofs.YtnlndmoecljicaaW.PrintWords Go.RowKit
attribute [local go_sem] max2_int min2_int max_two min_two max_three min_three max_four min_four
set_option maxHeartbeats 8000000
set_option maxRecDepth 100000
theorem bs5_ {w w1 w2 : World} {g1 g2 g3 g4 g5 : Nat} (h : Aside0 (Below w.heap.size w w1)) (e1 : w.heap.size ≤ g1) (e2 : w.heap.size ≤ g2) (e3 : w.heap.size ≤ g3) (e4 : w.heap.size ≤ g4) (e5 : w.heap.size ≤ g5) (g : Below w.heap.size w w1 → w.heap.size ≤ g1 → w.heap.size ≤ g2 → w.heap.size ≤ g3 → w.heap.size ≤ g4 → w.heap.size ≤ g5 → Below w.heap.size w w2 := by intro h_ e1_ e2_ e3_ e4_ e5_; repeat (first | (with_reducible first | exact h_ | apply below_alloc | apply pw_below_drewN | apply below_drew1 | refine below_set ?_ e1_ | refine below_set ?_ e2_ | refine below_set ?_ e3_ | refine below_set ?_ e4_ | refine below_set ?_ e5_) | exact h_)) : Below w.heap.size w w2 := g h.out e1 e2 e3 e4 e5
theorem bs4_ {w w1 w2 : World} {g1 g2 g3 g4 : Nat} (h : Aside0 (Below w.heap.size w w1)) (e1 : w.heap.size ≤ g1) (e2 : w.heap.size ≤ g2) (e3 : w.heap.size ≤ g3) (e4 : w.heap.size ≤ g4) (g : Below w.heap.size w w1 → w.heap.size ≤ g1 → w.heap.size ≤ g2 → w.heap.size ≤ g3 → w.heap.size ≤ g4 → Below w.heap.size w w2 := by intro h_ e1_ e2_ e3_ e4_; repeat (first | (with_reducible first | exact h_ | apply below_alloc | apply pw_below_drewN | apply below_drew1 | refine below_set ?_ e1_ | refine below_set ?_ e2_ | refine below_set ?_ e3_ | refine below_set ?_ e4_) | exact h_)) : Below w.heap.size w w2 := g h.out e1 e2 e3 e4
def spec_DrawCommit.j0 : Nat → List ByteArray → List (S25) → Int → Int → List Int → Int → Int → List ByteArray → Int → ByteArray → List Int → Int → Option (List ByteArray × Int × ByteArray × List Int × Int × (List (S25)) × Int × ByteArray × List ByteArray)
 | 0, _, _, _, _, _, _, _, _, _, _, _, _ => none
 | k + 1, x8, x9, x10, x11, x7000, x7001, x7002, x25000, x25001, x25002, x25003, x25004 => if 0 ≤ x11 then (if x11 ≤ (x8.length : Int) then ((spec_HeadOf.f k (x8.take (x11 : Int).toNat)).bind fun bt32 => ((some (([] : List ByteArray) : List ByteArray)).bind fun y35 => (if 0 ≤ x10 then (if x10 ≤ x11 then ((some ((x8.take (x11 : Int).toNat).drop (x10 : Int).toNat : List ByteArray)).bind fun y38 => (if y35.length + y38.length < 8796093022208 then ((some (y35 ++ y38 : List ByteArray)).bind fun y42 => ((spec_l1Below.f x7000 x7001 x7002 10).bind fun bt45 => (if bt45.1 = 0 then ((spec_l12Any.f k x7000 bt45.2.1 bt45.2.2).bind fun bt48 => (some (bt48.1, bt48.2.1, bt48.2.2.1, bt48.2.2.2.1, bt48.2.2.2.2.1, x9, bt32.1, bt32.2, y42))) else (if bt45.1 = 1 then (if y42.length < 8796093022208 then (some (x25000, x25001, x25002, x25003, x25004, x9, bt32.1, bt32.2, (y42 ++ [(⟨#[109, 111, 114, 101]⟩ : ByteArray)]))) else (none)) else (if bt45.1 = 2 then (if (y42.length : Int) > 0 then (if 0 < (y42.length : Int) then (some (x25000, x25001, x25002, x25003, x25004, x9, bt32.1, bt32.2, (y42.set (0 : Int).toNat (⟨#[98, 101, 110, 116]⟩ : ByteArray)))) else (none)) else (some (x25000, x25001, x25002, x25003, x25004, x9, bt32.1, bt32.2, y42))) else (some (x25000, x25001, x25002, x25003, x25004, x9, bt32.1, bt32.2, y42))))))) else (none))) else (none)) else (none)))) else (none)) else (none)
def spec_DrawCommit.f (k : Nat) (l0 : List Int) : Option (List ByteArray × Int × ByteArray × List Int × Int × (List (S25)) × Int × ByteArray × List ByteArray) := (spec_l1New.f k l0).bind fun bt3 => ((spec_l12Draw.f k bt3.1 bt3.2.1 bt3.2.2).bind fun bt7 => (if (bt7.1.length : Int) < (bt7.2.2.2.2.2.1.length : Int) then ((spec_l1Below.f bt3.1 bt7.2.2.2.2.2.2.2.1 bt7.2.2.2.2.2.2.2.2 (wrap64 ((bt7.2.2.2.2.2.1.length : Int) - (bt7.1.length : Int)))).bind fun bt25 => (spec_DrawCommit.j0 k bt7.2.2.2.2.2.1 bt7.2.2.2.2.2.2.1 (bt7.1.length : Int) (wrap64 ((wrap64 ((bt7.1.length : Int) + 1)) + bt25.1)) bt3.1 bt25.2.1 bt25.2.2 bt7.1 bt7.2.1 bt7.2.2.1 bt7.2.2.2.1 bt7.2.2.2.2.1)) else (spec_DrawCommit.j0 k bt7.2.2.2.2.2.1 bt7.2.2.2.2.2.2.1 (bt7.1.length : Int) (bt7.2.2.2.2.2.1.length : Int) bt3.1 bt7.2.2.2.2.2.2.2.1 bt7.2.2.2.2.2.2.2.2 bt7.1 bt7.2.1 bt7.2.2.1 bt7.2.2.2.1 bt7.2.2.2.2.1)))
def spec_DrawCommit.T17 : Bool × List (List Nat × List Nat) := (true, [([], []), ([], []), ([], []), ([], []), ([0, 0], [0]), ([1, 4, 0, 1, 4], [1]), ([2, 5, 0, 1, 2, 4, 5], [2]), ([3, 6, 0, 1, 2, 3, 4, 5, 6], [3])])
def spec_DrawCommit.B17 : List Nat := [0, 0, 0, 0, 1, 19, 55, 127]
theorem spec_DrawCommit.tab17 : rtab .any (opsOf Try.f14 17) = spec_DrawCommit.T17 := by kernel_rfl
theorem spec_DrawCommit.bits17 : waitsOk spec_DrawCommit.T17.2 spec_DrawCommit.B17 = true := by kernel_rfl
theorem spec_DrawCommit.calls (k : Nat) (A0 : Option Addr) (c0 : Nat) (l0 : List Int) (r1 : List ByteArray) (r2 : Int) (r3 : ByteArray) (r4 : List Int) (r5 : Int) (r6 : List (S25)) (r7 : Int) (r8 : ByteArray) (r9 : List ByteArray) (w : World) (hr0 : Kd.C (Kd.int .u8) w A0 l0.length l0) (hc0 : l0.length ≤ c0) (h : spec_DrawCommit.f k l0 = some (r1, r2, r3, r4, r5, r6, r7, r8, r9)) :
  Calls Try.prog 14 #[.slice A0 l0.length c0] w fun e w' => ∃ v0_ v3_ v5_ v8_ : Value, e = .returned (.tuple #[.agg #[v0_, .int .i64 r2, .string r3, v3_, .int .i64 r5], v5_, .agg #[.int .i64 r7, .string r8], v8_]) ∧ Kd.R Kd.string 9 w' w.heap.size (fun k_ => some k_ ≠ (v8_ : Value).ownBlock) v0_ r1 ∧ Kd.R (Kd.int .u8) 5 w' w.heap.size (fun _ => True) v3_ r4 ∧ Kd.R k25 25 w' w.heap.size (fun _ => True) v5_ r6 ∧ Kd.R Kd.string 9 w' w.heap.size (fun k_ => some k_ ≠ (v0_ : Value).ownBlock) v8_ r9 ∧ Below w.heap.size w w' := by
 have hu39 := Try.underlying39
 have hu25 := Try.underlying25
 have HR0 := am_ hr0
 have HC0 := am_ hc0
 clear hr0 hc0
 have HB := h0_ w
 have H : ((spec_l1New.f k l0).bind fun bt3 => ((spec_l12Draw.f k bt3.1 bt3.2.1 bt3.2.2).bind fun bt7 => (if (bt7.1.length : Int) < (bt7.2.2.2.2.2.1.length : Int) then ((spec_l1Below.f bt3.1 bt7.2.2.2.2.2.2.2.1 bt7.2.2.2.2.2.2.2.2 (wrap64 ((bt7.2.2.2.2.2.1.length : Int) - (bt7.1.length : Int)))).bind fun bt25 => (spec_DrawCommit.j0 k bt7.2.2.2.2.2.1 bt7.2.2.2.2.2.2.1 (bt7.1.length : Int) (wrap64 ((wrap64 ((bt7.1.length : Int) + 1)) + bt25.1)) bt3.1 bt25.2.1 bt25.2.2 bt7.1 bt7.2.1 bt7.2.2.1 bt7.2.2.2.1 bt7.2.2.2.2.1)) else (spec_DrawCommit.j0 k bt7.2.2.2.2.2.1 bt7.2.2.2.2.2.2.1 (bt7.1.length : Int) (bt7.2.2.2.2.2.1.length : Int) bt3.1 bt7.2.2.2.2.2.2.2.1 bt7.2.2.2.2.2.2.2.2 bt7.1 bt7.2.1 bt7.2.2.1 bt7.2.2.2.1 bt7.2.2.2.2.1)))) = some (r1, r2, r3, r4, r5, r6, r7, r8, r9) := h
 clear h
 replace H := bi_ H; obtain ⟨⟨t3, t4, t5⟩, A2, H⟩ := H
 dsimp only at H
 replace H := bi_ H; obtain ⟨⟨t7, t10, t11, t12, t15, t16, t19, t22, t23⟩, A3, H⟩ := H
 dsimp only at H
 have HC4 := am_ H
 clear H
 go_enter Try.func14, Try.ntmps14
 go_upto_if 30 with (first | ((with_reducible refine gd_ 2 ?_); refine x39_ 2 (hx_ HB ?_); clear HB; intro gb1 w5 BK1 GW1 HB; have GE1 := GW1) | ((with_reducible refine gd_ 4 ?_); refine x25_ 4 ?_; intro gb2 hg w6 hbox hb; have BK2 := am_ hbox; have GW2 := gg_ hg HB; have GE2 := GW2; replace HB := ss_ HB hb; have NB1_2 := nla_ hg BK1; have NB2_1 := nga_ hg BK1; replace BK1 := kl_ BK1 hb; clear hb hbox hg) | ((with_reducible refine gq_ 20 15 ?_); refine gc_ 15 Try.func20 (spec_l1New.calls k _ _ l0 t3 t4 t5 w _ (bw_ HB) HR0.out HC0.out A2.out) ?_; rintro e w7 ⟨g6, rfl, hi, hb, hb2⟩; refine ⟨_, rfl, ?_⟩; replace HB := am_ hb; have HI6 := am_ hi; have NB6_1 := am_ (IsS84.ne_blk hi (blk_below (kb_ BK1.out) hb2) (by decide)); have NB1_6 := am_ (Ne.symm (IsS84.ne_blk hi (blk_below (kb_ BK1.out) hb2) (by decide))); replace BK1 := am_ (blk_below (kb_ BK1.out) hb2); have NB6_2 := am_ (IsS84.ne_blk hi (blk_below (kb_ BK2.out) hb2) (by decide)); have NB2_6 := am_ (Ne.symm (IsS84.ne_blk hi (blk_below (kb_ BK2.out) hb2) (by decide))); replace BK2 := am_ (blk_below (kb_ BK2.out) hb2); clear hb hb2 hi) | ((with_reducible refine gq_ 41 18 ?_); refine gc_ 18 Try.func41 (spec_l12Draw.calls k g6 t3 t4 t5 t7 t10 t11 t12 t15 t16 t19 t22 t23 w _ (in84_ HI6) (bi84_ HB) A3.out) ?_; rintro e w8 ⟨v8, v13, v17, v20, rfl, ho0, ho1, ho2, ho3, hi, hb, hk⟩; refine ⟨_, rfl, ?_⟩; replace BK1 := kbk_ hk (kb_ BK1.out) NB1_6; have HO9 := am_ (Kd.R_lower ho0 (below_size (bs3_ HB (IsS84.ge HI6.out) GE1.out GE2.out))); have HO14 := am_ (Kd.R_lower ho1 (below_size (bs3_ HB (IsS84.ge HI6.out) GE1.out GE2.out))); have HO18 := am_ (Kd.R_lower ho2 (below_size (bs3_ HB (IsS84.ge HI6.out) GE1.out GE2.out))); have HO21 := am_ (Kd.R_lower (Kd.R_newB ho3 (kb_ BK2.out)) (below_size (bs3_ HB (IsS84.ge HI6.out) GE1.out GE2.out))); replace BK2 := kbk_ hk (kb_ BK2.out) NB2_6; replace HB := am_ hb; replace HI6 := am_ hi; clear hb hk hi ho0 ho1 ho2 ho3) | ((with_reducible refine gd_ 7 ?_); refine x39_ 7 ?_; intro gb24 hg w9 hbox hb; replace HO9 := rb_ HO9 hb; replace HO14 := rb_ HO14 hb; replace HO18 := rb_ HO18 hb; replace HO21 := rb_ HO21 hb; have BK24 := am_ hbox; have GW24 := am_ (gz_ hg (below_size (bs3_ HB (IsS84.ge HI6.out) GE1.out GE2.out))); have GE24 := am_ (gz_ hg (below_size (bs3_ HB (IsS84.ge HI6.out) GE1.out GE2.out))); replace HB := am_ (below_step (bs3_ HB (IsS84.ge HI6.out) GE1.out GE2.out) hb); have NB1_24 := nla_ hg BK1; have NB24_1 := nga_ hg BK1; replace BK1 := kl_ BK1 hb; have NB2_24 := nla_ hg BK2; have NB24_2 := nga_ hg BK2; replace BK2 := kl_ BK2 hb; have NB6_24 := am_ ((by rw [hg]; exact Nat.ne_of_lt (IsS84.lt (show IsS84 w _ g6 t3 t22 t23 from in84_ HI6)) : g6 ≠ gb24)); have NB24_6 := am_ ((by rw [hg]; exact Nat.ne_of_gt (IsS84.lt (show IsS84 w _ g6 t3 t22 t23 from in84_ HI6)) : gb24 ≠ g6)); replace HI6 := am_ (IsS84.below (in84_ HI6) hb); clear hb hbox hg; obtain ⟨Ao10, co10, eo10⟩ := Kd.R_slice HO9.out; subst eo10; have hnb11 := NB24_1.out; have hnc11 := NB1_24.out; have hnb12 := NB24_2.out; have hnc12 := NB2_24.out; have hnb13 := NB24_6.out; have hnc13 := NB6_24.out; have hz14 := cz5_ BK24; obtain ⟨Ao15, co15, eo15⟩ := Kd.R_slice HO14.out; subst eo15; obtain ⟨Ao16, co16, eo16⟩ := Kd.R_slice HO18.out; subst eo16))
 (try simp only [Act.put, List.setIfInBounds_toArray, List.set_cons_zero, List.set_cons_succ])
 go_cut [11] (fun v11 wc => ∃ (kq : Nat) (x11_3 : Int) (x7001_3 : Int) (x7002_3 : Int), v11 = .int .i64 x11_3 ∧ Aside0 (spec_DrawCommit.j0 kq t16 t19 (t7.length : Int) x11_3 t3 x7001_3 x7002_3 t7 t10 t11 t12 t15 = some (r1, r2, r3, r4, r5, r6, r7, r8, r9)) ∧ Aside0 (kq ≤ k) ∧ Aside0 (Kd.R Kd.string 9 wc w.heap.size (fun k_ => some k_ ≠ ((.slice Ao10 t7.length co10) : Value).ownBlock) (.slice Ao16 t16.length co16) t16) ∧ Aside0 (Kd.R k25 25 wc w.heap.size (fun k_ => k_ ≠ gb2) v20 t19) ∧ Aside0 (Kd.R Kd.string 9 wc w.heap.size (fun k_ => some k_ ≠ ((.slice Ao16 t16.length co16) : Value).ownBlock) (.slice Ao10 t7.length co10) t7) ∧ Aside0 (Kd.R (Kd.int .u8) 5 wc w.heap.size (fun _ => True) (.slice Ao15 t12.length co15) t12) ∧ Aside0 (wc.heap[gb1]? = some (.cells #[(.slice none 0 0), .int .i64 0, .string (⟨#[]⟩ : ByteArray), (.slice none 0 0), .int .i64 0] 39 (0, 0))) ∧ Aside0 (wc.heap[gb2]? = some (.cells #[.int .i64 0, .string (⟨#[]⟩ : ByteArray)] 25 (0, 0))) ∧ Aside0 (wc.heap[gb24]? = some (.cells #[(.slice Ao10 t7.length co10), .int .i64 t10, .string t11, (.slice Ao15 t12.length co15), .int .i64 t15] 39 (0, 0))) ∧ Aside0 (IsS84 w wc g6 t3 x7001_3 x7002_3) ∧ Aside0 (Below w.heap.size w wc))
 case first =>
  have H := HC4.out
  clear HC4
  replace H := it_ H; obtain ⟨c17, H⟩ | ⟨c17, H⟩ := H
  ·have c17b0 := decide_eq_true c17
   have c17b1 : decide (t7.length < t16.length) = true := decide_eq_true (Int.ofNat_lt.mp c17)
   clear c17
   (first | rw [c17b0] | (simp only [i64_w, i32_w]; rw [c17b0]) | rw [c17b1] | skip)
   replace H := bi_ H; obtain ⟨⟨t25, t26, t27⟩, A18, H⟩ := H
   dsimp only at H
   have H' := am_ H
   clear H
   go_wp2_with (first | ((with_reducible refine gq_ 27 37 ?_); refine gc_ 37 Try.func27 (spec_l1Below.calls g6 t3 t22 t23 (wrap64 ((t16.length : Int) - (t7.length : Int))) t25 t26 t27 w _ (in84_ HI6) (bi84_ HB) A18.out) ?_; rintro e w19 ⟨rfl, hi, hb, hk⟩; refine ⟨_, rfl, ?_⟩; replace BK1 := kbk_ hk (kq_ (o' := .cells #[.slice none 0 0, .int .i64 0, .string (⟨#[]⟩ : ByteArray), .slice none 0 0, .int .i64 0] 39 (0, 0)) BK1) NB1_6; replace BK2 := kbk_ hk (kq_ (o' := .cells #[.int .i64 0, .string (⟨#[]⟩ : ByteArray)] 25 (0, 0)) BK2) NB2_6; have i_ := iw84_ hk (show IsS84 w _ g6 t3 t22 t23 from in84_ HI6); replace HO9 := rat84_ i_ (kf_ HO9 BK24) hk; replace HO14 := rat84_ i_ (kf_ HO14 BK24) hk; replace HO18 := rat84_ i_ (kf_ HO18 BK24) hk; replace HO21 := rat84_ i_ (kf_ HO21 BK24) hk; clear i_; replace BK24 := kbk_ hk (kq_ (o' := .cells #[.slice Ao10 t7.length co10, .int .i64 t10, .string t11, .slice Ao15 t12.length co15, .int .i64 t15] 39 (0, 0)) BK24) NB24_6; replace HB := am_ hb; replace HI6 := am_ hi; clear hb hk hi))
   go_meet
   case rel => exact ⟨_, (wrap64 ((wrap64 ((t7.length : Int) + 1)) + t25)), (t26), (t27), e1_, H', ⟨le_⟩, ⟨kr_ HO18.out⟩, ⟨kr_ (Kd.R_mono HO21.out (fun _ hk => hk.2))⟩, ⟨kr_ HO9.out⟩, ⟨kr_ HO14.out⟩, ⟨kb_ BK1.out⟩, ⟨kb_ BK2.out⟩, ⟨kb_ BK24.out⟩, ⟨in84_ HI6⟩, ⟨bi84_ HB⟩⟩
  ·have c17b0 := decide_eq_false c17
   have c17b1 : decide (t7.length < t16.length) = false := decide_eq_false (fun h => c17 (Int.ofNat_lt.mpr h))
   clear c17
   (first | rw [c17b0] | (simp only [i64_w, i32_w]; rw [c17b0]) | rw [c17b1] | skip)
   have H' := am_ H
   clear H
   go_wp2
   go_meet
   case rel => exact ⟨_, ((t16.length : Int)), (t22), (t23), e1_, H', ⟨le_⟩, ⟨kfm_ HO18 BK24⟩, ⟨kr_ (Kd.R_mono (Kd.R_far (p := ⟨gb24, 4, none⟩) (Kd.R_far (p := ⟨gb24, 3, none⟩) (Kd.R_far (p := ⟨gb24, 2, none⟩) (Kd.R_far (p := ⟨gb24, 1, none⟩) (Kd.R_far (p := ⟨gb24, 0, none⟩) (Kd.R_types HO21.out BK24.out (by decide)) (fun _ hk => hk.2) (.slice Ao10 t7.length co10)) (fun _ hk => hk.2) (.int .i64 t10)) (fun _ hk => hk.2) (.string t11)) (fun _ hk => hk.2) (.slice Ao15 t12.length co15)) (fun _ hk => hk.2) (.int .i64 t15)) (fun _ hk => hk.1.2))⟩, ⟨kfm_ HO9 BK24⟩, ⟨kfm_ HO14 BK24⟩, ⟨kq_ BK1⟩, ⟨kq_ BK2⟩, ⟨kq_ BK24⟩, ⟨in84_ HI6⟩, ⟨bi84_ HB⟩⟩
 case rest =>
  clear HC4
  try clear hz14
  obtain ⟨kq, x11_3, x7001_3, x7002_3, rfl, HA, HJ3, HO_8, HO_9, HO_25000, HO_25003, BK1, BK2, BK24, HI6, HB⟩ := hcut
  cases kq with
  | zero => exact absurd HA.out (by simp [spec_DrawCommit.j0])
  | succ kj3 =>
   have H := HA.out
   clear HA
   simp only [spec_DrawCommit.j0] at H
   replace H := ip_ H; obtain ⟨c20, H⟩ := H
   have c20b0 := eq_true c20
   have c20b1 := decide_eq_true c20
   clear c20
   replace H := ip_ H; obtain ⟨c21, H⟩ := H
   have c21b0 := eq_true c21
   have c21b1 := decide_eq_true c21
   clear c21
   obtain ⟨y28, hy28⟩ : ∃ y_ : List ByteArray, y_ = (t16.take (x11_3 : Int).toNat) := ⟨_, rfl⟩
   replace H : ((spec_HeadOf.f kj3 y28).bind fun bt32 => ((some (([] : List ByteArray) : List ByteArray)).bind fun y35 => (if 0 ≤ (t7.length : Int) then (if (t7.length : Int) ≤ x11_3 then ((some ((t16.take (x11_3 : Int).toNat).drop ((t7.length : Int) : Int).toNat : List ByteArray)).bind fun y38 => (if y35.length + y38.length < 8796093022208 then ((some (y35 ++ y38 : List ByteArray)).bind fun y42 => ((spec_l1Below.f t3 x7001_3 x7002_3 10).bind fun bt45 => (if bt45.1 = 0 then ((spec_l12Any.f kj3 t3 bt45.2.1 bt45.2.2).bind fun bt48 => (some (bt48.1, bt48.2.1, bt48.2.2.1, bt48.2.2.2.1, bt48.2.2.2.2.1, t19, bt32.1, bt32.2, y42))) else (if bt45.1 = 1 then (if y42.length < 8796093022208 then (some (t7, t10, t11, t12, t15, t19, bt32.1, bt32.2, (y42 ++ [(⟨#[109, 111, 114, 101]⟩ : ByteArray)]))) else (none)) else (if bt45.1 = 2 then (if (y42.length : Int) > 0 then (if 0 < (y42.length : Int) then (some (t7, t10, t11, t12, t15, t19, bt32.1, bt32.2, (y42.set (0 : Int).toNat (⟨#[98, 101, 110, 116]⟩ : ByteArray)))) else (none)) else (some (t7, t10, t11, t12, t15, t19, bt32.1, bt32.2, y42))) else (some (t7, t10, t11, t12, t15, t19, bt32.1, bt32.2, y42))))))) else (none))) else (none)) else (none)))) = some (r1, r2, r3, r4, r5, r6, r7, r8, r9) := yh_ hy28 H
   have Ny28 := am_ hy28
   clear hy28
   replace H := bi_ H; obtain ⟨⟨t32, t33⟩, A22, H⟩ := H
   dsimp only at H
   obtain ⟨y35, Ny35, H⟩ := sb_ (([] : List ByteArray)) H
   replace H := ip_ H; obtain ⟨c23, H⟩ := H
   have c23b0 := eq_true c23
   have c23b1 := decide_eq_true c23
   clear c23
   replace H := ip_ H; obtain ⟨c24, H⟩ := H
   have c24b0 := eq_true c24
   have c24b1 := decide_eq_true c24
   clear c24
   have c25b0 := eq_true (od_ : x11_3 ≤ (t16.length : Int))
   obtain ⟨y38, Ny38, H⟩ := sb_ ((t16.take (x11_3 : Int).toNat).drop ((t7.length : Int) : Int).toNat) H
   replace H := ip_ H; obtain ⟨c26, H⟩ := H
   have LMc26 := am_ c26
   clear c26
   obtain ⟨y42, Ny42, H⟩ := sb_ (y35 ++ y38) H
   replace H := bi_ H; obtain ⟨⟨t45, t46, t47⟩, A27, H⟩ := H
   dsimp only at H
   have q30 : (x11_3 : Int) ≤ ((t16.length : Int) : Int) := od_
   obtain ⟨i030, hi030, _, hsz30, _⟩ := info_parts info9
   have hroom30 : t16.length ≤ co16 := (cl_ HO_8)
   have hC30 : Kd.C Kd.string _ Ao16 t16.length t16 := (Kd.R_reads' HO_8.out).2.2
   have hcut30 := cut_to (P := Try.prog) 26 9 .i64 Try.underlying26 hi030 Ao16 t16.length co16 x11_3 (od_) q30 hroom30
   have hr30 := Kd.C_take (m := (x11_3 : Int).toNat) hC30 (by omega)
   have hy30 : y28.length = (x11_3 : Int).toNat := (by rw [Ny28.out, List.length_take]; omega)
   rw [← Ny28.out] at hr30
   rw [← hy30] at hcut30
   have HR31 := am_ hr30
   have HC31 := am_ (show y28.length ≤ co16 from by omega)
   clear hr30 hC30 hroom30 hi030 hsz30
   have KY30 := am_ hy30
   clear hy30
   have KL30 := am_ (show (x11_3 : Int).toNat ≤ t16.length from by omega)
   replace q30 := eq_true q30
   go_upto_if 51 with (first | ((with_reducible refine gk_ 42 ?_); refine gl_ 42 Try.func42 #[.slice Ao16 y28.length co16] ?_; (with_reducible refine (spec_HeadOf.calls kj3 _ _ y28 t32 t33 _ ?side1 ?side2 A22.out).mono ?_); (case side1 => exact cr_ (by repeat (first | (with_reducible exact HR31.out) | (with_reducible refine Kd.C_alloc ?_ _) | (with_reducible refine Kd.C_drewN ?_ _) | (with_reducible refine Kd.C_drew ?_) | exact HR31.out))); (case side2 => exact HC31.out); rintro e w31 ⟨rfl, hb⟩; refine ⟨_, rfl, ?_⟩; replace HO_8 := rb_ HO_8 hb; replace HO_9 := rb_ HO_9 hb; replace HO_25000 := rb_ HO_25000 hb; replace HO_25003 := rb_ HO_25003 hb; replace BK1 := kl_ BK1 hb; replace BK2 := kl_ BK2 hb; replace BK24 := kl_ BK24 hb; replace HR31 := am_ (Kd.C_below (by repeat (first | (with_reducible exact HR31.out) | (with_reducible refine Kd.C_alloc ?_ _) | (with_reducible refine Kd.C_drewN ?_ _) | (with_reducible refine Kd.C_drew ?_) | exact HR31.out)) hb); replace HB := am_ (below_step (bs4_ HB (IsS84.ge HI6.out) GE1.out GE2.out GE24.out) hb); replace HI6 := am_ (IsS84.below (in84_ HI6) hb); clear hb) | ((with_reducible refine gd_ 12 ?_); refine x25_ 12 ?_; intro gb34 hg w32 hbox hb; replace HO_8 := rb_ HO_8 hb; replace HO_9 := am_ (Kd.R_below (Kd.R_elderB (kr_ HO_9.out) gb34 (Nat.le_of_eq hg.symm)) hb); replace HO_25000 := rb_ HO_25000 hb; replace HO_25003 := rb_ HO_25003 hb; replace HR31 := am_ (Kd.C_below (by repeat (first | (with_reducible exact HR31.out) | (with_reducible refine Kd.C_alloc ?_ _) | (with_reducible refine Kd.C_drewN ?_ _) | (with_reducible refine Kd.C_drew ?_) | exact HR31.out)) hb); have BK34 := am_ hbox; have GW34 := am_ (gz_ hg (below_size (bs4_ HB (IsS84.ge HI6.out) GE1.out GE2.out GE24.out))); have GE34 := am_ (gz_ hg (below_size (bs4_ HB (IsS84.ge HI6.out) GE1.out GE2.out GE24.out))); replace HB := am_ (below_step (bs4_ HB (IsS84.ge HI6.out) GE1.out GE2.out GE24.out) hb); have NB1_34 := nla_ hg BK1; have NB34_1 := nga_ hg BK1; replace BK1 := kl_ BK1 hb; have NB2_34 := nla_ hg BK2; have NB34_2 := nga_ hg BK2; replace BK2 := kl_ BK2 hb; have NB24_34 := nla_ hg BK24; have NB34_24 := nga_ hg BK24; replace BK24 := kl_ BK24 hb; have NB6_34 := am_ ((by rw [hg]; exact Nat.ne_of_lt (IsS84.lt (show IsS84 w _ g6 t3 x7001_3 x7002_3 from in84_ HI6)) : g6 ≠ gb34)); have NB34_6 := am_ ((by rw [hg]; exact Nat.ne_of_gt (IsS84.lt (show IsS84 w _ g6 t3 x7001_3 x7002_3 from in84_ HI6)) : gb34 ≠ g6)); replace HI6 := am_ (IsS84.below (in84_ HI6) hb); clear hb hbox hg; have hnb33 := NB34_1.out; have hnc33 := NB1_34.out; have hnb34 := NB34_2.out; have hnc34 := NB2_34.out; have hnb35 := NB34_24.out; have hnc35 := NB24_34.out; have hnb36 := NB34_6.out; have hnc36 := NB6_34.out; have hz37 := cz2_ BK34) | ((with_reducible refine gd_ 43 ?_); refine rl_ Kd.string 9 43 ([] : List ByteArray) [] ?_; intro v36 w38 ho39 hb hg_ hnew_; clear hg_ hnew_; (first | rw [← Ny35.out] at ho39 | (simp only [Int.reduceToNat] at ho39; rw [← Ny35.out] at ho39)); replace HO_9 := am_ (Kd.R_below (kr_ ((Kd.R_mono (Kd.R_far (p := ⟨gb34, 1, none⟩) (Kd.R_far (p := ⟨gb34, 0, none⟩) (Kd.R_mono HO_9.out (fun k_ hk => (⟨hk, hk.2⟩ : _ ∧ k_ ≠ gb34))) (fun _ hk => hk.2) (.int .i64 t32)) (fun _ hk => hk.2) (.string t33)) (fun _ h_ => h_.1)))) hb); replace HO_25003 := rbf_ HO_25003 BK34 hb; have HO37 := am_ (Kd.R_lower (Kd.R_new' (Kd.R_new' ho39 (lf_ HO_8 BK34)) (lf_ HO_25000 BK34)) (below_size (bs5_ HB (IsS84.ge HI6.out) GE1.out GE2.out GE24.out GE34.out))); replace HO_25000 := ref_ HO_25000 BK34 ho39 hb; replace BK1 := kp_ BK1 hb; replace BK2 := kp_ BK2 hb; replace BK24 := kp_ BK24 hb; replace HR31 := am_ (Kd.C_below ((show Kd.C Kd.string _ Ao16 y28.length y28 from by rw [Ny28.out]; exact Kd.C_take (m := (x11_3 : Int).toNat) ((Kd.R_reads' (kf_ HO_8 BK34)).2.2) KL30.out)) hb); replace HO_8 := ref_ HO_8 BK34 ho39 hb; replace BK34 := kp_ BK34 hb; replace HB := am_ (below_step (bs5_ HB (IsS84.ge HI6.out) GE1.out GE2.out GE24.out GE34.out) hb); replace HI6 := am_ (IsS84.below (show IsS84 w ((w32.setCell ⟨gb34, 0, none⟩ (.int .i64 t32)).setCell ⟨gb34, 1, none⟩ (.string t33)) g6 t3 x7001_3 x7002_3 from in84_ HI6) hb); clear hb ho39; have q40 : (x11_3 : Int) ≤ ((t16.length : Int) : Int) := od_; obtain ⟨i040, hi040, _, hsz40, _⟩ := info_parts info9; have hroom40 : t16.length ≤ co16 := (cl_ HO_8); have hC40 : Kd.C Kd.string _ Ao16 t16.length t16 := (Kd.R_reads' HO_8.out).2.2; have ql40 : ((t7.length : Int) : Int) ≤ (x11_3 : Int) := od_; have q040 : (0 : Int) ≤ ((t7.length : Int) : Int) := od_; have hcut40 := cut_mid (P := Try.prog) 26 9 .i64 .i64 Try.underlying26 hi040 1 hsz40 Ao16 t16.length co16 (t7.length : Int) x11_3 q040 ql40 q40 hroom40; have hr40 := Kd.C_mid (lo := ((t7.length : Int) : Int).toNat) (hi := (x11_3 : Int).toNat) (c := co16) hC40 (by omega) (by omega) hroom40; obtain ⟨A40, hA40⟩ : ∃ A1, A1 = (if co16 = ((t7.length : Int) : Int).toNat then Ao16 else (Ao16 : Option Addr).map (·.add (((t7.length : Int) : Int).toNat * 1))) := ⟨_, rfl⟩; obtain ⟨c40, hc40⟩ : ∃ c1, c1 = co16 - ((t7.length : Int) : Int).toNat := ⟨_, rfl⟩; have hy40 : y38.length = (x11_3 : Int).toNat - ((t7.length : Int) : Int).toNat := (by rw [Ny38.out, List.length_drop, List.length_take] <;> omega); rw [show ((t16).take (x11_3 : Int).toNat).drop ((t7.length : Int) : Int).toNat = y38 from Ny38.out.symm] at hr40; replace hr40 : Kd.C Kd.string _ A40 y38.length y38 := (by rw [hA40]; exact hr40); rw [← hy40, ← hA40, ← hc40] at hcut40; have HR41 := am_ hr40; have HC41 := am_ (show y38.length ≤ c40 from by rw [hy40, hc40]; exact Nat.sub_le_sub_right (Nat.le_trans (by omega) hroom40) _); clear hr40 hC40 hroom40 hi040 hsz40 hc40; have KY40 := am_ hy40; have KA40 := am_ hA40; clear hy40 hA40; have KL40 := am_ (show (x11_3 : Int).toNat ≤ t16.length from by omega); have KM40 := am_ (show ((t7.length : Int) : Int).toNat ≤ (x11_3 : Int).toNat from by omega); replace q40 := eq_true q40) | ((with_reducible refine gate_builtin (b := .append) (xs := #[.tmp 43, .tmp 47]) rfl ?_); at_builtin; refine Kd.R_append_rows Kd.string (w0 := w) w.heap.size rfl (.tmp 43) (.tmp 47) 26 9 (.string ⟨#[]⟩) 16 rfl Try.underlying26 info9 rfl (by decide) (by omega) v36 y35 y38 _ _ _ (fun k_ => some k_ ≠ (.slice Ao16 t16.length co16 : Value).ownBlock ∧ some k_ ≠ (.slice Ao10 t7.length co10 : Value).ownBlock) (fun _ => False) rfl rfl ?aO ?aR (fun _ _ h => h) (fun _ h => h.elim) ?aF ?aB ?aS ?aL ?_; (case aR => repeat (first | exact (by repeat (first | (with_reducible exact HR41.out) | (with_reducible refine Kd.C_alloc ?_ _) | (with_reducible refine Kd.C_drewN ?_ _) | (with_reducible refine Kd.C_drew ?_) | exact HR41.out)) | (with_reducible refine Kd.C_alloc ?_ _) | (with_reducible refine Kd.C_drewN ?_ _) | (with_reducible refine Kd.C_drew ?_))); (case aB => exact (bs5_ HB (IsS84.ge HI6.out) GE1.out GE2.out GE24.out GE34.out)); (case aF => exact (fun k_ hk => ⟨Kd.fresh' (lt_ HO_8) k_ hk, Kd.fresh' (lt_ HO_25000) k_ hk⟩)); (case aO => exact (kr_ (Kd.R_mono HO37.out (fun _ hk => ⟨hk.1.2, hk.2⟩)))); (case aS => exact (below_size (bs5_ HB (IsS84.ge HI6.out) GE1.out GE2.out GE24.out GE34.out))); (case aL => have := LMc26.out; omega); intro v43 w41 ho hb hg hat; rw [← Ny42.out] at ho; replace HO_9 := am_ (Kd.R_over' (kr_ HO_9.out) (Kd.R_typed (kr_ HO37.out)) (by decide) hg); replace HO_25000 := am_ (Kd.R_after (ok := (fun k_ => some k_ ≠ (.slice Ao16 t16.length co16 : Value).ownBlock)) (kr_ HO_25000.out) hg hat); replace HO_25003 := am_ (Kd.R_over' (kr_ HO_25003.out) (Kd.R_typed (kr_ HO37.out)) (by decide) hg); replace BK1 := kg_ BK1 HO37 hg; replace BK2 := kg_ BK2 HO37 hg; replace BK24 := kg_ BK24 HO37 hg; replace HI6 := am_ (IsS84.grown (in84_ HI6) hg (IsS84.own_ne HI6.out HO37.out (by decide))); replace BK34 := kg_ BK34 HO37 hg; replace HB := am_ hb; replace HR31 := am_ ((show Kd.C Kd.string w41 Ao16 y28.length y28 from by rw [Ny28.out]; exact Kd.C_take (m := (x11_3 : Int).toNat) ((Kd.R_reads' (Kd.R_after (ok := (fun k_ => some k_ ≠ (.slice Ao10 t7.length co10 : Value).ownBlock)) (kr_ HO_8.out) hg hat)).2.2) KL30.out)); replace HR41 := am_ ((show Kd.C Kd.string w41 A40 y38.length y38 from by rw [Ny38.out, KA40.out]; exact Kd.C_mid (lo := ((t7.length : Int) : Int).toNat) (hi := (x11_3 : Int).toNat) (c := co16) ((Kd.R_reads' (Kd.R_after (ok := (fun k_ => some k_ ≠ (.slice Ao10 t7.length co10 : Value).ownBlock)) (kr_ HO_8.out) hg hat)).2.2) KM40.out KL40.out ((Kd.R_reads' (Kd.R_after (ok := (fun k_ => some k_ ≠ (.slice Ao10 t7.length co10 : Value).ownBlock)) (kr_ HO_8.out) hg hat)).2.1))); replace HO_8 := am_ (Kd.R_after (ok := (fun k_ => some k_ ≠ (.slice Ao10 t7.length co10 : Value).ownBlock)) (kr_ HO_8.out) hg hat); have HO44 := am_ ho; clear HO37; clear ho hb hg hat) | ((with_reducible refine gq_ 27 50 ?_); refine gc_ 50 Try.func27 (spec_l1Below.calls g6 t3 x7001_3 x7002_3 10 t45 t46 t47 w _ (in84_ HI6) (bi84_ HB) A27.out) ?_; rintro e w42 ⟨rfl, hi, hb, hk⟩; refine ⟨_, rfl, ?_⟩; have i_ := iw84_ hk (show IsS84 w _ g6 t3 x7001_3 x7002_3 from in84_ HI6); replace HO_8 := rat84_ i_ (kr_ HO_8.out) hk; replace HO_9 := rat84_ i_ (kr_ HO_9.out) hk; replace HO_25000 := rat84_ i_ (kr_ HO_25000.out) hk; replace HO_25003 := rat84_ i_ (kr_ HO_25003.out) hk; replace BK1 := kbk_ hk (kb_ BK1.out) NB1_6; replace BK2 := kbk_ hk (kb_ BK2.out) NB2_6; replace BK24 := kbk_ hk (kb_ BK24.out) NB24_6; replace BK34 := kbk_ hk (kb_ BK34.out) NB34_6; replace HO44 := rat84_ i_ (kr_ HO44.out) hk; clear i_; replace HB := am_ hb; replace HI6 := am_ hi; clear hb hk hi))
   (try simp only [Act.put, List.setIfInBounds_toArray, List.set_cons_zero, List.set_cons_succ])
   replace H := it_ H; obtain ⟨c28, H⟩ | ⟨c28, H⟩ := H
   ·have c28b0 : (t45 == 0) = true := beq_iff_eq.mpr c28
    have c28b1 : (t45 != 0) = false := bne_eq_false_iff_eq.mpr c28
    clear c28
    replace H := bi_ H; obtain ⟨⟨t48, t51, t52, t53, t56, t57, t58⟩, A29, H⟩ := H
    dsimp only at H
    simp only [Option.some.injEq, Prod.mk.injEq] at H
    obtain ⟨rfl, rfl, rfl, rfl, rfl, rfl, rfl, rfl, rfl⟩ := H
    try go_wp2_with (first | ((with_reducible refine gq_ 43 54 ?_); refine gc_ 54 Try.func43 (spec_l12Any.calls kj3 g6 t3 t46 t47 t48 t51 t52 t53 t56 t57 t58 w _ (in84_ HI6) (bi84_ HB) A29.out) ?_; rintro e w43 ⟨v49, v54, rfl, ho0, ho1, hi, hb, hk⟩; refine ⟨_, rfl, ?_⟩; have i_ := iw84_ hk (show IsS84 w _ g6 t3 t46 t47 from in84_ HI6); replace HO_9 := rat84_ i_ (kr_ HO_9.out) hk; clear i_; replace BK1 := kbk_ hk (kb_ BK1.out) NB1_6; replace BK2 := kbk_ hk (kb_ BK2.out) NB2_6; replace BK24 := kbk_ hk (kb_ BK24.out) NB24_6; replace BK34 := kbk_ hk (kb_ BK34.out) NB34_6; have HO50 := am_ (Kd.R_lower (Kd.R_new' (Kd.R_new' (Kd.R_new' ho0 (lt_ HO_8)) (lt_ HO_25000)) (lt_ HO44)) (below_size (bs5_ HB (IsS84.ge HI6.out) GE1.out GE2.out GE24.out GE34.out))); replace HO_8 := am_ (Kd.R_mono (Kd.R_told (Kd.R_oldK (IsS84.apart (show IsS84 w _ g6 t3 t46 t47 from in84_ HI6) (kr_ HO_8.out) (by decide)) hk) (Kd.R_base ho0)) (fun _ h_ => h_.1)); replace HO_25000 := am_ (Kd.R_mono (Kd.R_told (Kd.R_oldK (IsS84.apart (show IsS84 w _ g6 t3 t46 t47 from in84_ HI6) (kr_ HO_25000.out) (by decide)) hk) (Kd.R_base ho0)) (fun _ h_ => h_.1)); replace HO44 := am_ (Kd.R_mono (Kd.R_told (Kd.R_oldK (IsS84.apart (show IsS84 w _ g6 t3 t46 t47 from in84_ HI6) (kr_ HO44.out) (by decide)) hk) (Kd.R_base ho0)) (fun _ h_ => h_.1)); have HO55 := am_ (Kd.R_lower (Kd.R_new' ho1 (lt_ HO_25003)) (below_size (bs5_ HB (IsS84.ge HI6.out) GE1.out GE2.out GE24.out GE34.out))); replace HO_25003 := am_ (Kd.R_mono (Kd.R_told (Kd.R_oldK (IsS84.apart (show IsS84 w _ g6 t3 t46 t47 from in84_ HI6) (kr_ HO_25003.out) (by decide)) hk) (Kd.R_base ho1)) (fun _ h_ => h_.1)); replace HB := am_ hb; replace HI6 := am_ hi; clear hb hk hi ho0 ho1; obtain ⟨Ao44, co44, eo44⟩ := Kd.R_slice HO50.out; subst eo44; have hnb45 := NB24_1.out; have hnc45 := NB1_24.out; have hnb46 := NB24_2.out; have hnc46 := NB2_24.out; have hnb47 := NB24_6.out; have hnc47 := NB6_24.out; have hz48 := cz5_ BK24; obtain ⟨Ao49, co49, eo49⟩ := Kd.R_slice HO55.out; subst eo49))
    have n0_ : Aside0 (Kd.R Kd.string 9 (((((w43.setCell ⟨gb24, 0, none⟩ (.slice Ao44 t48.length co44)).setCell ⟨gb24, 1, none⟩ (.int .i64 t51)).setCell ⟨gb24, 2, none⟩ (.string t52)).setCell ⟨gb24, 3, none⟩ (.slice Ao49 t53.length co49)).setCell ⟨gb24, 4, none⟩ (.int .i64 t56)) w.heap.size (fun k_ => some k_ ≠ (.slice Ao10 t7.length co10 : Value).ownBlock ∧ some k_ ≠ (v43 : Value).ownBlock ∧ some k_ ≠ (.slice Ao44 t48.length co44 : Value).ownBlock) (.slice Ao16 t16.length co16) t16) := ⟨kr_ (Kd.R_mono (Kd.R_far (p := ⟨gb24, 4, none⟩) (Kd.R_far (p := ⟨gb24, 3, none⟩) (Kd.R_far (p := ⟨gb24, 2, none⟩) (Kd.R_far (p := ⟨gb24, 1, none⟩) (Kd.R_far (p := ⟨gb24, 0, none⟩) (Kd.R_types HO_8.out BK24.out (by decide)) (fun _ hk => hk.2) (.slice Ao44 t48.length co44)) (fun _ hk => hk.2) (.int .i64 t51)) (fun _ hk => hk.2) (.string t52)) (fun _ hk => hk.2) (.slice Ao49 t53.length co49)) (fun _ hk => hk.2) (.int .i64 t56)) (fun _ hk => ⟨hk.1.1.1, ⟨hk.1.1.2, hk.1.2⟩⟩))⟩
    have n1_ : Aside0 (Kd.R k25 25 (((((w43.setCell ⟨gb24, 0, none⟩ (.slice Ao44 t48.length co44)).setCell ⟨gb24, 1, none⟩ (.int .i64 t51)).setCell ⟨gb24, 2, none⟩ (.string t52)).setCell ⟨gb24, 3, none⟩ (.slice Ao49 t53.length co49)).setCell ⟨gb24, 4, none⟩ (.int .i64 t56)) w.heap.size (fun k_ => k_ ≠ gb2 ∧ k_ ≠ gb34) v20 t19) := ⟨kr_ (Kd.R_mono (Kd.R_far (p := ⟨gb24, 4, none⟩) (Kd.R_far (p := ⟨gb24, 3, none⟩) (Kd.R_far (p := ⟨gb24, 2, none⟩) (Kd.R_far (p := ⟨gb24, 1, none⟩) (Kd.R_far (p := ⟨gb24, 0, none⟩) (Kd.R_types HO_9.out BK24.out (by decide)) (fun _ hk => hk.2) (.slice Ao44 t48.length co44)) (fun _ hk => hk.2) (.int .i64 t51)) (fun _ hk => hk.2) (.string t52)) (fun _ hk => hk.2) (.slice Ao49 t53.length co49)) (fun _ hk => hk.2) (.int .i64 t56)) (fun _ hk => ⟨hk.1.1, hk.1.2⟩))⟩
    have n2_ : Aside0 (Kd.R Kd.string 9 (((((w43.setCell ⟨gb24, 0, none⟩ (.slice Ao44 t48.length co44)).setCell ⟨gb24, 1, none⟩ (.int .i64 t51)).setCell ⟨gb24, 2, none⟩ (.string t52)).setCell ⟨gb24, 3, none⟩ (.slice Ao49 t53.length co49)).setCell ⟨gb24, 4, none⟩ (.int .i64 t56)) w.heap.size (fun k_ => some k_ ≠ (.slice Ao16 t16.length co16 : Value).ownBlock ∧ some k_ ≠ (v43 : Value).ownBlock ∧ some k_ ≠ (.slice Ao44 t48.length co44 : Value).ownBlock) (.slice Ao10 t7.length co10) t7) := ⟨kr_ (Kd.R_mono (Kd.R_far (p := ⟨gb24, 4, none⟩) (Kd.R_far (p := ⟨gb24, 3, none⟩) (Kd.R_far (p := ⟨gb24, 2, none⟩) (Kd.R_far (p := ⟨gb24, 1, none⟩) (Kd.R_far (p := ⟨gb24, 0, none⟩) (Kd.R_types HO_25000.out BK24.out (by decide)) (fun _ hk => hk.2) (.slice Ao44 t48.length co44)) (fun _ hk => hk.2) (.int .i64 t51)) (fun _ hk => hk.2) (.string t52)) (fun _ hk => hk.2) (.slice Ao49 t53.length co49)) (fun _ hk => hk.2) (.int .i64 t56)) (fun _ hk => ⟨hk.1.1.1, ⟨hk.1.1.2, hk.1.2⟩⟩))⟩
    have n3_ : Aside0 (Kd.R (Kd.int .u8) 5 (((((w43.setCell ⟨gb24, 0, none⟩ (.slice Ao44 t48.length co44)).setCell ⟨gb24, 1, none⟩ (.int .i64 t51)).setCell ⟨gb24, 2, none⟩ (.string t52)).setCell ⟨gb24, 3, none⟩ (.slice Ao49 t53.length co49)).setCell ⟨gb24, 4, none⟩ (.int .i64 t56)) w.heap.size (fun k_ => some k_ ≠ (.slice Ao49 t53.length co49 : Value).ownBlock) (.slice Ao15 t12.length co15) t12) := ⟨kr_ (Kd.R_mono (Kd.R_far (p := ⟨gb24, 4, none⟩) (Kd.R_far (p := ⟨gb24, 3, none⟩) (Kd.R_far (p := ⟨gb24, 2, none⟩) (Kd.R_far (p := ⟨gb24, 1, none⟩) (Kd.R_far (p := ⟨gb24, 0, none⟩) (Kd.R_types HO_25003.out BK24.out (by decide)) (fun _ hk => hk.2) (.slice Ao44 t48.length co44)) (fun _ hk => hk.2) (.int .i64 t51)) (fun _ hk => hk.2) (.string t52)) (fun _ hk => hk.2) (.slice Ao49 t53.length co49)) (fun _ hk => hk.2) (.int .i64 t56)) (fun _ hk => hk.1.2))⟩
    have n4_ : Aside0 (Kd.R Kd.string 9 (((((w43.setCell ⟨gb24, 0, none⟩ (.slice Ao44 t48.length co44)).setCell ⟨gb24, 1, none⟩ (.int .i64 t51)).setCell ⟨gb24, 2, none⟩ (.string t52)).setCell ⟨gb24, 3, none⟩ (.slice Ao49 t53.length co49)).setCell ⟨gb24, 4, none⟩ (.int .i64 t56)) w.heap.size (fun k_ => some k_ ≠ (.slice Ao16 t16.length co16 : Value).ownBlock ∧ some k_ ≠ (.slice Ao10 t7.length co10 : Value).ownBlock ∧ some k_ ≠ (.slice Ao44 t48.length co44 : Value).ownBlock) v43 y42) := ⟨kr_ (Kd.R_mono (Kd.R_far (p := ⟨gb24, 4, none⟩) (Kd.R_far (p := ⟨gb24, 3, none⟩) (Kd.R_far (p := ⟨gb24, 2, none⟩) (Kd.R_far (p := ⟨gb24, 1, none⟩) (Kd.R_far (p := ⟨gb24, 0, none⟩) (Kd.R_types HO44.out BK24.out (by decide)) (fun _ hk => hk.2) (.slice Ao44 t48.length co44)) (fun _ hk => hk.2) (.int .i64 t51)) (fun _ hk => hk.2) (.string t52)) (fun _ hk => hk.2) (.slice Ao49 t53.length co49)) (fun _ hk => hk.2) (.int .i64 t56)) (fun _ hk => ⟨hk.1.1.1, ⟨hk.1.1.2, hk.1.2⟩⟩))⟩
    have n5_ : Aside0 (Kd.R Kd.string 9 (((((w43.setCell ⟨gb24, 0, none⟩ (.slice Ao44 t48.length co44)).setCell ⟨gb24, 1, none⟩ (.int .i64 t51)).setCell ⟨gb24, 2, none⟩ (.string t52)).setCell ⟨gb24, 3, none⟩ (.slice Ao49 t53.length co49)).setCell ⟨gb24, 4, none⟩ (.int .i64 t56)) w.heap.size (fun k_ => some k_ ≠ (.slice Ao16 t16.length co16 : Value).ownBlock ∧ some k_ ≠ (.slice Ao10 t7.length co10 : Value).ownBlock ∧ some k_ ≠ (v43 : Value).ownBlock) (.slice Ao44 t48.length co44) t48) := ⟨kr_ (Kd.R_mono (Kd.R_far (p := ⟨gb24, 4, none⟩) (Kd.R_far (p := ⟨gb24, 3, none⟩) (Kd.R_far (p := ⟨gb24, 2, none⟩) (Kd.R_far (p := ⟨gb24, 1, none⟩) (Kd.R_far (p := ⟨gb24, 0, none⟩) (Kd.R_types HO50.out BK24.out (by decide)) (fun _ hk => hk.2) (.slice Ao44 t48.length co44)) (fun _ hk => hk.2) (.int .i64 t51)) (fun _ hk => hk.2) (.string t52)) (fun _ hk => hk.2) (.slice Ao49 t53.length co49)) (fun _ hk => hk.2) (.int .i64 t56)) (fun _ hk => ⟨hk.1.1.1.2, ⟨hk.1.1.2, hk.1.2⟩⟩))⟩
    have n6_ : Aside0 (Kd.R (Kd.int .u8) 5 (((((w43.setCell ⟨gb24, 0, none⟩ (.slice Ao44 t48.length co44)).setCell ⟨gb24, 1, none⟩ (.int .i64 t51)).setCell ⟨gb24, 2, none⟩ (.string t52)).setCell ⟨gb24, 3, none⟩ (.slice Ao49 t53.length co49)).setCell ⟨gb24, 4, none⟩ (.int .i64 t56)) w.heap.size (fun k_ => some k_ ≠ (.slice Ao15 t12.length co15 : Value).ownBlock) (.slice Ao49 t53.length co49) t53) := ⟨kr_ (Kd.R_mono (Kd.R_far (p := ⟨gb24, 4, none⟩) (Kd.R_far (p := ⟨gb24, 3, none⟩) (Kd.R_far (p := ⟨gb24, 2, none⟩) (Kd.R_far (p := ⟨gb24, 1, none⟩) (Kd.R_far (p := ⟨gb24, 0, none⟩) (Kd.R_types HO55.out BK24.out (by decide)) (fun _ hk => hk.2) (.slice Ao44 t48.length co44)) (fun _ hk => hk.2) (.int .i64 t51)) (fun _ hk => hk.2) (.string t52)) (fun _ hk => hk.2) (.slice Ao49 t53.length co49)) (fun _ hk => hk.2) (.int .i64 t56)) (fun _ hk => hk.1.2))⟩
    have n7_ : Aside0 ((((((w43.setCell ⟨gb24, 0, none⟩ (.slice Ao44 t48.length co44)).setCell ⟨gb24, 1, none⟩ (.int .i64 t51)).setCell ⟨gb24, 2, none⟩ (.string t52)).setCell ⟨gb24, 3, none⟩ (.slice Ao49 t53.length co49)).setCell ⟨gb24, 4, none⟩ (.int .i64 t56)).heap[gb1]? = some (.cells #[.slice none 0 0, .int .i64 0, .string (⟨#[]⟩ : ByteArray), .slice none 0 0, .int .i64 0] 39 (0, 0))) := ⟨kq_ BK1⟩
    have n8_ : Aside0 ((((((w43.setCell ⟨gb24, 0, none⟩ (.slice Ao44 t48.length co44)).setCell ⟨gb24, 1, none⟩ (.int .i64 t51)).setCell ⟨gb24, 2, none⟩ (.string t52)).setCell ⟨gb24, 3, none⟩ (.slice Ao49 t53.length co49)).setCell ⟨gb24, 4, none⟩ (.int .i64 t56)).heap[gb2]? = some (.cells #[.int .i64 0, .string (⟨#[]⟩ : ByteArray)] 25 (0, 0))) := ⟨kq_ BK2⟩
    have n9_ : Aside0 ((((((w43.setCell ⟨gb24, 0, none⟩ (.slice Ao44 t48.length co44)).setCell ⟨gb24, 1, none⟩ (.int .i64 t51)).setCell ⟨gb24, 2, none⟩ (.string t52)).setCell ⟨gb24, 3, none⟩ (.slice Ao49 t53.length co49)).setCell ⟨gb24, 4, none⟩ (.int .i64 t56)).heap[gb24]? = some (.cells #[.slice Ao44 t48.length co44, .int .i64 t51, .string t52, .slice Ao49 t53.length co49, .int .i64 t56] 39 (0, 0))) := ⟨kq_ BK24⟩
    have n10_ : Aside0 ((((((w43.setCell ⟨gb24, 0, none⟩ (.slice Ao44 t48.length co44)).setCell ⟨gb24, 1, none⟩ (.int .i64 t51)).setCell ⟨gb24, 2, none⟩ (.string t52)).setCell ⟨gb24, 3, none⟩ (.slice Ao49 t53.length co49)).setCell ⟨gb24, 4, none⟩ (.int .i64 t56)).heap[gb34]? = some (.cells #[.int .i64 t32, .string t33] 25 (0, 0))) := ⟨kq_ BK34⟩
    have n11_ : Aside0 (IsS84 w (((((w43.setCell ⟨gb24, 0, none⟩ (.slice Ao44 t48.length co44)).setCell ⟨gb24, 1, none⟩ (.int .i64 t51)).setCell ⟨gb24, 2, none⟩ (.string t52)).setCell ⟨gb24, 3, none⟩ (.slice Ao49 t53.length co49)).setCell ⟨gb24, 4, none⟩ (.int .i64 t56)) g6 t3 t57 t58) := ⟨in84_ HI6⟩
    have n12_ : Aside0 (Below w.heap.size w (((((w43.setCell ⟨gb24, 0, none⟩ (.slice Ao44 t48.length co44)).setCell ⟨gb24, 1, none⟩ (.int .i64 t51)).setCell ⟨gb24, 2, none⟩ (.string t52)).setCell ⟨gb24, 3, none⟩ (.slice Ao49 t53.length co49)).setCell ⟨gb24, 4, none⟩ (.int .i64 t56))) := ⟨bi84_ HB⟩
    generalize (((((w43.setCell ⟨gb24, 0, none⟩ (.slice Ao44 t48.length co44)).setCell ⟨gb24, 1, none⟩ (.int .i64 t51)).setCell ⟨gb24, 2, none⟩ (.string t52)).setCell ⟨gb24, 3, none⟩ (.slice Ao49 t53.length co49)).setCell ⟨gb24, 4, none⟩ (.int .i64 t56)) = w50 at n0_ n1_ n2_ n3_ n4_ n5_ n6_ n7_ n8_ n9_ n10_ n11_ n12_ ⊢
    have HO_8 := n0_
    have HO_9 := n1_
    have HO_25000 := n2_
    have HO_25003 := n3_
    have HO44 := n4_
    have HO50 := n5_
    have HO55 := n6_
    have BK1 := n7_
    have BK2 := n8_
    have BK24 := n9_
    have BK34 := n10_
    have HI6 := n11_
    have HB := n12_
    clear n0_ n1_ n2_ n3_ n4_ n5_ n6_ n7_ n8_ n9_ n10_ n11_ n12_
    replace HO_8 := am_ (Kd.R_drew HO_8.out)
    replace HO_9 := am_ (Kd.R_drew HO_9.out)
    replace HO_25000 := am_ (Kd.R_drew HO_25000.out)
    replace HO_25003 := am_ (Kd.R_drew HO_25003.out)
    replace HO44 := am_ (Kd.R_drew HO44.out)
    replace HO50 := am_ (Kd.R_drew HO50.out)
    replace HO55 := am_ (Kd.R_drew HO55.out)
    replace BK1 := bd_ BK1
    replace BK2 := bd_ BK2
    replace BK24 := bd_ BK24
    replace BK34 := bd_ BK34
    replace HI6 := am_ (IsS84.drew HI6.out)
    replace HB := hd_ HB
    refine sw_ 8 (fun w' => w'.cell? ⟨gb24, 0, none⟩ = some (.slice Ao44 t48.length co44) ∧ w'.cell? ⟨gb24, 1, none⟩ = some (.int .i64 t51) ∧ w'.cell? ⟨gb24, 2, none⟩ = some (.string t52) ∧ w'.cell? ⟨gb24, 3, none⟩ = some (.slice Ao49 t53.length co49) ∧ w'.cell? ⟨gb24, 4, none⟩ = some (.int .i64 t56) ∧ w'.cell? ⟨gb34, 0, none⟩ = some (.int .i64 t32) ∧ w'.cell? ⟨gb34, 1, none⟩ = some (.string t33)) [] spec_DrawCommit.tab17 spec_DrawCommit.bits17 ⟨bc0_ BK24.out, bc1_ BK24.out, bc2_ BK24.out, bc3_ BK24.out, bc4_ BK24.out, bc0_ BK34.out, bc1_ BK34.out⟩ (fun hHeld HT_ HW_ => ?_)
    generalize w50.drew = w51 at HO_8 HO_9 HO_25000 HO_25003 HO44 HO50 HO55 BK1 BK2 BK24 BK34 HI6 HB hHeld ⊢
    refine pt_ 1 68 2 ?_
    refine pt_ 3 70 10 ?_
    refine tt_ 0 67 11 ?_
    refine tt_ 2 69 15 ?_
    refine one_ (i := 4) (N := none) (lz_ 8 31) rfl rfl (one_of HT_.out (by kernel_rfl)) (by decide) (fun K hK => ?_)
    have hs52 := bc0_ BK1.out
    have hfs52 := blk_frozen BK1.out 0
    have hns52_1 := NB2_1.out
    have hns52_2 := NB24_1.out
    have hns52_3 := NB34_1.out
    have hms52_1 := NB1_2.out
    have hms52_2 := NB1_24.out
    have hms52_3 := NB1_34.out
    have hs53 := bc1_ BK1.out
    have hfs53 := blk_frozen BK1.out 1
    have hns53_1 := NB2_1.out
    have hns53_2 := NB24_1.out
    have hns53_3 := NB34_1.out
    have hms53_1 := NB1_2.out
    have hms53_2 := NB1_24.out
    have hms53_3 := NB1_34.out
    have hs54 := bc2_ BK1.out
    have hfs54 := blk_frozen BK1.out 2
    have hns54_1 := NB2_1.out
    have hns54_2 := NB24_1.out
    have hns54_3 := NB34_1.out
    have hms54_1 := NB1_2.out
    have hms54_2 := NB1_24.out
    have hms54_3 := NB1_34.out
    have hs55 := bc3_ BK1.out
    have hfs55 := blk_frozen BK1.out 3
    have hns55_1 := NB2_1.out
    have hns55_2 := NB24_1.out
    have hns55_3 := NB34_1.out
    have hms55_1 := NB1_2.out
    have hms55_2 := NB1_24.out
    have hms55_3 := NB1_34.out
    have hs56 := bc4_ BK1.out
    have hfs56 := blk_frozen BK1.out 4
    have hns56_1 := NB2_1.out
    have hns56_2 := NB24_1.out
    have hns56_3 := NB34_1.out
    have hms56_1 := NB1_2.out
    have hms56_2 := NB1_24.out
    have hms56_3 := NB1_34.out
    refine skip_ (w1 := ?_) (by rfl) rfl ?_ ?_
    rotate_left
    ·go_simp
     rfl
    refine hK.out _ _ ⟨(cf_ NB24_1 hHeld.1), (cf_ NB24_1 hHeld.2.1), (cf_ NB24_1 hHeld.2.2.1), (cf_ NB24_1 hHeld.2.2.2.1), (cf_ NB24_1 hHeld.2.2.2.2.1), (cf_ NB34_1 hHeld.2.2.2.2.2.1), (cf_ NB34_1 hHeld.2.2.2.2.2.2)⟩ (fun hHeld => ?_)
    clear hK K
    refine pt_ 5 3 63 ?_
    refine one_ (i := 6) (N := none) (lz_ 8 127) rfl rfl (one_of HT_.out (by kernel_rfl)) (by decide) (fun K hK => ?_)
    have hs57 := bc0_ BK2.out
    have hfs57 := blk_frozen BK2.out 0
    have hns57_0 := NB1_2.out
    have hns57_2 := NB24_2.out
    have hns57_3 := NB34_2.out
    have hms57_0 := NB2_1.out
    have hms57_2 := NB2_24.out
    have hms57_3 := NB2_34.out
    have hs58 := bc1_ BK2.out
    have hfs58 := blk_frozen BK2.out 1
    have hns58_0 := NB1_2.out
    have hns58_2 := NB24_2.out
    have hns58_3 := NB34_2.out
    have hms58_0 := NB2_1.out
    have hms58_2 := NB2_24.out
    have hms58_3 := NB2_34.out
    refine skip_ (w1 := ?_) (by rfl) rfl ?_ ?_
    rotate_left
    ·go_simp
     rfl
    refine hK.out _ _ ⟨(cf_ NB24_2 hHeld.1), (cf_ NB24_2 hHeld.2.1), (cf_ NB24_2 hHeld.2.2.1), (cf_ NB24_2 hHeld.2.2.2.1), (cf_ NB24_2 hHeld.2.2.2.2.1), (cf_ NB34_2 hHeld.2.2.2.2.2.1), (cf_ NB34_2 hHeld.2.2.2.2.2.2)⟩ (fun hHeld => ?_)
    clear hK K
    refine pt_ 7 5 255 ?_
    refine dn_ ?_
    try go_wp2
    refine bodyPost_ret (results_list (rs := [.cell 2 39, .tmp 3, .cell 4 25, .tmp 5]) rfl (by simp) (.cell gb1 39 #[.slice Ao44 t48.length co44, .int .i64 t51, .string t52, .slice Ao49 t53.length co49, .int .i64 t56] (0, 0) _ rfl (by exact kq_ BK1) Try.underlying39 rfl (by kernel_rfl) (.tmp (.cell gb2 25 #[.int .i64 t32, .string t33] (0, 0) _ rfl (by exact kq_ BK2) Try.underlying25 rfl (by kernel_rfl) (.tmp .nil))))) rfl ?_
    exact ⟨_, _, _, _, e2_, kr_ (Kd.R_mono (Kd.R_far (p := ⟨gb2, 1, none⟩) (Kd.R_far (p := ⟨gb2, 0, none⟩) (Kd.R_far (p := ⟨gb1, 4, none⟩) (Kd.R_far (p := ⟨gb1, 3, none⟩) (Kd.R_far (p := ⟨gb1, 2, none⟩) (Kd.R_far (p := ⟨gb1, 1, none⟩) (Kd.R_far (p := ⟨gb1, 0, none⟩) (Kd.R_types (Kd.R_types HO50.out BK1.out (by decide)) BK2.out (by decide)) (fun _ hk => hk.1.2) (.slice Ao44 t48.length co44)) (fun _ hk => hk.1.2) (.int .i64 t51)) (fun _ hk => hk.1.2) (.string t52)) (fun _ hk => hk.1.2) (.slice Ao49 t53.length co49)) (fun _ hk => hk.1.2) (.int .i64 t56)) (fun _ hk => hk.2) (.int .i64 t32)) (fun _ hk => hk.2) (.string t33)) (fun _ hk => hk.1.1.2.2)), kfm2_ HO55 BK1 BK2, kr_ (Kd.R_mono (Kd.R_far (p := ⟨gb2, 1, none⟩) (Kd.R_far (p := ⟨gb2, 0, none⟩) (Kd.R_far (p := ⟨gb1, 4, none⟩) (Kd.R_far (p := ⟨gb1, 3, none⟩) (Kd.R_far (p := ⟨gb1, 2, none⟩) (Kd.R_far (p := ⟨gb1, 1, none⟩) (Kd.R_far (p := ⟨gb1, 0, none⟩) (Kd.R_mono (Kd.R_types HO_9.out BK1.out (by decide)) (fun k_ hk => (⟨hk, hk.1.1⟩ : _ ∧ k_ ≠ gb2))) (fun _ hk => hk.1.2) (.slice Ao44 t48.length co44)) (fun _ hk => hk.1.2) (.int .i64 t51)) (fun _ hk => hk.1.2) (.string t52)) (fun _ hk => hk.1.2) (.slice Ao49 t53.length co49)) (fun _ hk => hk.1.2) (.int .i64 t56)) (fun _ hk => hk.2) (.int .i64 t32)) (fun _ hk => hk.2) (.string t33)) (fun _ hk => trivial)), kr_ (Kd.R_mono (Kd.R_far (p := ⟨gb2, 1, none⟩) (Kd.R_far (p := ⟨gb2, 0, none⟩) (Kd.R_far (p := ⟨gb1, 4, none⟩) (Kd.R_far (p := ⟨gb1, 3, none⟩) (Kd.R_far (p := ⟨gb1, 2, none⟩) (Kd.R_far (p := ⟨gb1, 1, none⟩) (Kd.R_far (p := ⟨gb1, 0, none⟩) (Kd.R_types (Kd.R_types HO44.out BK1.out (by decide)) BK2.out (by decide)) (fun _ hk => hk.1.2) (.slice Ao44 t48.length co44)) (fun _ hk => hk.1.2) (.int .i64 t51)) (fun _ hk => hk.1.2) (.string t52)) (fun _ hk => hk.1.2) (.slice Ao49 t53.length co49)) (fun _ hk => hk.1.2) (.int .i64 t56)) (fun _ hk => hk.2) (.int .i64 t32)) (fun _ hk => hk.2) (.string t33)) (fun _ hk => hk.1.1.2.2)), bi84_ HB⟩
   ·have c28b0 : (t45 == 0) = false := beq_eq_false_iff_ne.mpr c28
    have c28b1 : (t45 != 0) = true := bne_iff_ne.mpr c28
    replace H := it_ H; obtain ⟨c59, H⟩ | ⟨c59, H⟩ := H
    ·have c59b0 : (t45 == 1) = true := beq_iff_eq.mpr c59
     have c59b1 : (t45 != 1) = false := bne_eq_false_iff_eq.mpr c59
     clear c59
     replace H := ip_ H; obtain ⟨c60, H⟩ := H
     have LMc60 := am_ c60
     clear c60
     obtain ⟨y59, hy59⟩ : ∃ y_ : List ByteArray, y_ = (y42 ++ [(⟨#[109, 111, 114, 101]⟩ : ByteArray)]) := ⟨_, rfl⟩
     replace H : (some (t7, t10, t11, t12, t15, t19, t32, t33, y59)) = some (r1, r2, r3, r4, r5, r6, r7, r8, r9) := yh_ hy59 H
     have Ny59 := am_ hy59
     clear hy59
     simp only [Option.some.injEq, Prod.mk.injEq] at H
     obtain ⟨rfl, rfl, rfl, rfl, rfl, rfl, rfl, rfl, rfl⟩ := H
     try go_wp2_with (first | ((with_reducible refine gate_builtin (b := .append) (xs := #[.tmp 57, .tmp 58]) rfl ?_); at_builtin; refine Kd.R_append Kd.string (w0 := w) w.heap.size rfl (.tmp 57) (.tmp 58) 26 9 (.string ⟨#[]⟩) 16 rfl Try.underlying26 info9 rfl (by decide) (by omega) v43 y42 (⟨#[109, 111, 114, 101]⟩ : ByteArray) [.string (⟨#[109, 111, 114, 101]⟩ : ByteArray)] (fun k_ => some k_ ≠ (.slice Ao16 t16.length co16 : Value).ownBlock ∧ some k_ ≠ (.slice Ao10 t7.length co10 : Value).ownBlock) (fun _ => False) rfl rfl ?aP (fun _ hk => hk.elim) ?aF ?aO ?aB ?aS ?aL ?_; (case aP => exact rfl); (case aB => exact (bs5_ HB (IsS84.ge HI6.out) GE1.out GE2.out GE24.out GE34.out)); (case aF => exact (fun k_ hk => ⟨Kd.fresh' (lt_ HO_8) k_ hk, Kd.fresh' (lt_ HO_25000) k_ hk⟩)); (case aO => exact (kr_ HO44.out)); (case aS => exact (below_size (bs5_ HB (IsS84.ge HI6.out) GE1.out GE2.out GE24.out GE34.out))); (case aL => have := LMc60.out; omega); intro v60 w74 ho hb hg hat; rw [← Ny59.out] at ho; replace HO_8 := am_ (Kd.R_after (ok := (fun k_ => some k_ ≠ (.slice Ao10 t7.length co10 : Value).ownBlock)) (kr_ HO_8.out) hg hat); replace HO_9 := am_ (Kd.R_over' (kr_ HO_9.out) (Kd.R_typed (kr_ HO44.out)) (by decide) hg); replace HO_25000 := am_ (Kd.R_after (ok := (fun k_ => some k_ ≠ (.slice Ao16 t16.length co16 : Value).ownBlock)) (kr_ HO_25000.out) hg hat); replace HO_25003 := am_ (Kd.R_over' (kr_ HO_25003.out) (Kd.R_typed (kr_ HO44.out)) (by decide) hg); replace BK1 := kg_ BK1 HO44 hg; replace BK2 := kg_ BK2 HO44 hg; replace BK24 := kg_ BK24 HO44 hg; replace HI6 := am_ (IsS84.grown (in84_ HI6) hg (IsS84.own_ne HI6.out HO44.out (by decide))); replace BK34 := kg_ BK34 HO44 hg; replace HB := am_ hb; have HO61 := am_ ho; clear HO44; clear ho hb hg hat))
     replace HO_8 := am_ (Kd.R_drew HO_8.out)
     replace HO_9 := am_ (Kd.R_drew HO_9.out)
     replace HO_25000 := am_ (Kd.R_drew HO_25000.out)
     replace HO_25003 := am_ (Kd.R_drew HO_25003.out)
     replace HO61 := am_ (Kd.R_drew HO61.out)
     replace BK1 := bd_ BK1
     replace BK2 := bd_ BK2
     replace BK24 := bd_ BK24
     replace BK34 := bd_ BK34
     replace HI6 := am_ (IsS84.drew HI6.out)
     replace HB := hd_ HB
     refine sw_ 8 (fun w' => w'.cell? ⟨gb24, 0, none⟩ = some (.slice Ao10 t7.length co10) ∧ w'.cell? ⟨gb24, 1, none⟩ = some (.int .i64 t10) ∧ w'.cell? ⟨gb24, 2, none⟩ = some (.string t11) ∧ w'.cell? ⟨gb24, 3, none⟩ = some (.slice Ao15 t12.length co15) ∧ w'.cell? ⟨gb24, 4, none⟩ = some (.int .i64 t15) ∧ w'.cell? ⟨gb34, 0, none⟩ = some (.int .i64 t32) ∧ w'.cell? ⟨gb34, 1, none⟩ = some (.string t33)) [] spec_DrawCommit.tab17 spec_DrawCommit.bits17 ⟨bc0_ BK24.out, bc1_ BK24.out, bc2_ BK24.out, bc3_ BK24.out, bc4_ BK24.out, bc0_ BK34.out, bc1_ BK34.out⟩ (fun hHeld HT_ HW_ => ?_)
     generalize w74.drew = w75 at HO_8 HO_9 HO_25000 HO_25003 HO61 BK1 BK2 BK24 BK34 HI6 HB hHeld ⊢
     refine pt_ 1 68 2 ?_
     refine pt_ 3 70 10 ?_
     refine tt_ 0 67 11 ?_
     refine tt_ 2 69 15 ?_
     refine one_ (i := 4) (N := none) (lz_ 8 31) rfl rfl (one_of HT_.out (by kernel_rfl)) (by decide) (fun K hK => ?_)
     have hs76 := bc0_ BK1.out
     have hfs76 := blk_frozen BK1.out 0
     have hns76_1 := NB2_1.out
     have hns76_2 := NB24_1.out
     have hns76_3 := NB34_1.out
     have hms76_1 := NB1_2.out
     have hms76_2 := NB1_24.out
     have hms76_3 := NB1_34.out
     have hs77 := bc1_ BK1.out
     have hfs77 := blk_frozen BK1.out 1
     have hns77_1 := NB2_1.out
     have hns77_2 := NB24_1.out
     have hns77_3 := NB34_1.out
     have hms77_1 := NB1_2.out
     have hms77_2 := NB1_24.out
     have hms77_3 := NB1_34.out
     have hs78 := bc2_ BK1.out
     have hfs78 := blk_frozen BK1.out 2
     have hns78_1 := NB2_1.out
     have hns78_2 := NB24_1.out
     have hns78_3 := NB34_1.out
     have hms78_1 := NB1_2.out
     have hms78_2 := NB1_24.out
     have hms78_3 := NB1_34.out
     have hs79 := bc3_ BK1.out
     have hfs79 := blk_frozen BK1.out 3
     have hns79_1 := NB2_1.out
     have hns79_2 := NB24_1.out
     have hns79_3 := NB34_1.out
     have hms79_1 := NB1_2.out
     have hms79_2 := NB1_24.out
     have hms79_3 := NB1_34.out
     have hs80 := bc4_ BK1.out
     have hfs80 := blk_frozen BK1.out 4
     have hns80_1 := NB2_1.out
     have hns80_2 := NB24_1.out
     have hns80_3 := NB34_1.out
     have hms80_1 := NB1_2.out
     have hms80_2 := NB1_24.out
     have hms80_3 := NB1_34.out
     refine skip_ (w1 := ?_) (by rfl) rfl ?_ ?_
     rotate_left
     ·go_simp
      rfl
     refine hK.out _ _ ⟨(cf_ NB24_1 hHeld.1), (cf_ NB24_1 hHeld.2.1), (cf_ NB24_1 hHeld.2.2.1), (cf_ NB24_1 hHeld.2.2.2.1), (cf_ NB24_1 hHeld.2.2.2.2.1), (cf_ NB34_1 hHeld.2.2.2.2.2.1), (cf_ NB34_1 hHeld.2.2.2.2.2.2)⟩ (fun hHeld => ?_)
     clear hK K
     refine pt_ 5 3 63 ?_
     refine one_ (i := 6) (N := none) (lz_ 8 127) rfl rfl (one_of HT_.out (by kernel_rfl)) (by decide) (fun K hK => ?_)
     have hs81 := bc0_ BK2.out
     have hfs81 := blk_frozen BK2.out 0
     have hns81_0 := NB1_2.out
     have hns81_2 := NB24_2.out
     have hns81_3 := NB34_2.out
     have hms81_0 := NB2_1.out
     have hms81_2 := NB2_24.out
     have hms81_3 := NB2_34.out
     have hs82 := bc1_ BK2.out
     have hfs82 := blk_frozen BK2.out 1
     have hns82_0 := NB1_2.out
     have hns82_2 := NB24_2.out
     have hns82_3 := NB34_2.out
     have hms82_0 := NB2_1.out
     have hms82_2 := NB2_24.out
     have hms82_3 := NB2_34.out
     refine skip_ (w1 := ?_) (by rfl) rfl ?_ ?_
     rotate_left
     ·go_simp
      rfl
     refine hK.out _ _ ⟨(cf_ NB24_2 hHeld.1), (cf_ NB24_2 hHeld.2.1), (cf_ NB24_2 hHeld.2.2.1), (cf_ NB24_2 hHeld.2.2.2.1), (cf_ NB24_2 hHeld.2.2.2.2.1), (cf_ NB34_2 hHeld.2.2.2.2.2.1), (cf_ NB34_2 hHeld.2.2.2.2.2.2)⟩ (fun hHeld => ?_)
     clear hK K
     refine pt_ 7 5 255 ?_
     refine dn_ ?_
     try go_wp2
     refine bodyPost_ret (results_list (rs := [.cell 2 39, .tmp 3, .cell 4 25, .tmp 5]) rfl (by simp) (.cell gb1 39 #[.slice Ao10 t7.length co10, .int .i64 t10, .string t11, .slice Ao15 t12.length co15, .int .i64 t15] (0, 0) _ rfl (by exact kq_ BK1) Try.underlying39 rfl (by kernel_rfl) (.tmp (.cell gb2 25 #[.int .i64 t32, .string t33] (0, 0) _ rfl (by exact kq_ BK2) Try.underlying25 rfl (by kernel_rfl) (.tmp .nil))))) rfl ?_
     exact ⟨_, _, _, _, e2_, kr_ (Kd.R_mono (Kd.R_far (p := ⟨gb2, 1, none⟩) (Kd.R_far (p := ⟨gb2, 0, none⟩) (Kd.R_far (p := ⟨gb1, 4, none⟩) (Kd.R_far (p := ⟨gb1, 3, none⟩) (Kd.R_far (p := ⟨gb1, 2, none⟩) (Kd.R_far (p := ⟨gb1, 1, none⟩) (Kd.R_far (p := ⟨gb1, 0, none⟩) (Kd.R_types (Kd.R_types HO_25000.out BK1.out (by decide)) BK2.out (by decide)) (fun _ hk => hk.1.2) (.slice Ao10 t7.length co10)) (fun _ hk => hk.1.2) (.int .i64 t10)) (fun _ hk => hk.1.2) (.string t11)) (fun _ hk => hk.1.2) (.slice Ao15 t12.length co15)) (fun _ hk => hk.1.2) (.int .i64 t15)) (fun _ hk => hk.2) (.int .i64 t32)) (fun _ hk => hk.2) (.string t33)) (fun _ hk => hk.1.1.2)), kfm2_ HO_25003 BK1 BK2, kr_ (Kd.R_mono (Kd.R_far (p := ⟨gb2, 1, none⟩) (Kd.R_far (p := ⟨gb2, 0, none⟩) (Kd.R_far (p := ⟨gb1, 4, none⟩) (Kd.R_far (p := ⟨gb1, 3, none⟩) (Kd.R_far (p := ⟨gb1, 2, none⟩) (Kd.R_far (p := ⟨gb1, 1, none⟩) (Kd.R_far (p := ⟨gb1, 0, none⟩) (Kd.R_mono (Kd.R_types HO_9.out BK1.out (by decide)) (fun k_ hk => (⟨hk, hk.1.1⟩ : _ ∧ k_ ≠ gb2))) (fun _ hk => hk.1.2) (.slice Ao10 t7.length co10)) (fun _ hk => hk.1.2) (.int .i64 t10)) (fun _ hk => hk.1.2) (.string t11)) (fun _ hk => hk.1.2) (.slice Ao15 t12.length co15)) (fun _ hk => hk.1.2) (.int .i64 t15)) (fun _ hk => hk.2) (.int .i64 t32)) (fun _ hk => hk.2) (.string t33)) (fun _ hk => trivial)), kr_ (Kd.R_mono (Kd.R_far (p := ⟨gb2, 1, none⟩) (Kd.R_far (p := ⟨gb2, 0, none⟩) (Kd.R_far (p := ⟨gb1, 4, none⟩) (Kd.R_far (p := ⟨gb1, 3, none⟩) (Kd.R_far (p := ⟨gb1, 2, none⟩) (Kd.R_far (p := ⟨gb1, 1, none⟩) (Kd.R_far (p := ⟨gb1, 0, none⟩) (Kd.R_types (Kd.R_types HO61.out BK1.out (by decide)) BK2.out (by decide)) (fun _ hk => hk.1.2) (.slice Ao10 t7.length co10)) (fun _ hk => hk.1.2) (.int .i64 t10)) (fun _ hk => hk.1.2) (.string t11)) (fun _ hk => hk.1.2) (.slice Ao15 t12.length co15)) (fun _ hk => hk.1.2) (.int .i64 t15)) (fun _ hk => hk.2) (.int .i64 t32)) (fun _ hk => hk.2) (.string t33)) (fun _ hk => hk.1.1.2)), bi84_ HB⟩
    ·have c59b0 : (t45 == 1) = false := beq_eq_false_iff_ne.mpr c59
     have c59b1 : (t45 != 1) = true := bne_iff_ne.mpr c59
     replace H := it_ H; obtain ⟨c83, H⟩ | ⟨c83, H⟩ := H
     ·have c83b0 : (t45 == 2) = true := beq_iff_eq.mpr c83
      have c83b1 : (t45 != 2) = false := bne_eq_false_iff_eq.mpr c83
      clear c83
      replace H := it_ H; obtain ⟨c84, H⟩ | ⟨c84, H⟩ := H
      ·have c84b0 : decide (0 < (y42.length : Int)) = true := decide_eq_true c84
       have c84b1 : decide (0 < y42.length) = true := decide_eq_true (by omega)
       clear c84
       replace H := ip_ H; obtain ⟨c85, H⟩ := H
       have c85b0 := decide_eq_true c85
       have c85b1 : decide (0 < y42.length) = true := decide_eq_true (by omega)
       clear c85
       obtain ⟨y62, hy62⟩ : ∃ y_ : List ByteArray, y_ = (y42.set (0 : Int).toNat (⟨#[98, 101, 110, 116]⟩ : ByteArray)) := ⟨_, rfl⟩
       replace H : (some (t7, t10, t11, t12, t15, t19, t32, t33, y62)) = some (r1, r2, r3, r4, r5, r6, r7, r8, r9) := yh_ hy62 H
       have Ny62 := am_ hy62
       clear hy62
       simp only [Option.some.injEq, Prod.mk.injEq] at H
       obtain ⟨rfl, rfl, rfl, rfl, rfl, rfl, rfl, rfl, rfl⟩ := H
       obtain ⟨Ao100, co100, eo100⟩ := Kd.R_slice HO44.out; subst eo100; have p86 : 0 ≤ (0 : Int) := (by omega); have q86 : (0 : Int) < ((y42.length : Int) : Int) := od_; have qi86 : (0 < y42.length) = True := eq_true (by omega); obtain ⟨go86, co86, eo86, gb86, gl86, cl86, HG86⟩ := Kd.R_form HO44.out (by omega); (first | cases eo86 | (injection eo86 with ea_ en_ ec_; (first | subst ea_ | (injection ea_ with ea_; subst ea_)); subst ec_; clear en_)); have GB86 := am_ gb86; have GG86 := am_ HG86; clear gb86 gl86 HG86; obtain ⟨hx86_0, hf86_0⟩ := Kd.R_celln (⟨#[]⟩ : ByteArray) HO44.out (0 : Int) p86 q86; (try rw [show ((0 : Int)).toNat = 0 from rfl] at hx86_0); (try simp only [Nat.reduceMul, Nat.zero_mul, Nat.zero_add, Nat.reduceAdd] at hx86_0); (try rw [show ((0 : Int)).toNat = 0 from rfl] at hf86_0); (try simp only [Nat.reduceMul, Nat.zero_mul, Nat.zero_add, Nat.reduceAdd] at hf86_0); replace p86 := eq_true p86; replace q86 := eq_true q86; obtain ⟨hy101_, hz101_⟩ := Kd.R_celln (⟨#[]⟩ : ByteArray) HO44.out (0 : Int) (by omega) (od_); (try simp only [Int.reduceToNat, Int.toNat_zero, Int.toNat_ofNat, Nat.reduceMul, Nat.zero_mul, Nat.zero_add] at hy101_ hz101_); (try rw [show ((0 : Int)).toNat = 0 from rfl] at hy101_); (try rw [show ((0 : Int)).toNat = 0 from rfl] at hz101_); have HP101 := Kd.R_putg HO44.out (0 : Int) (⟨#[98, 101, 110, 116]⟩ : ByteArray)
       try go_wp2_with (first | ((with_reducible refine gate_store (t := 9) (p := 66) rfl ?_); refine store_event (t := 9) (p := 66) (v := ?vo_w102) (w1 := (w42.setCell ⟨go86, (0 : Int).toNat, none⟩ (.string (⟨#[98, 101, 110, 116]⟩ : ByteArray)))) ?hg ?ho ?hn ?hr ?_; (case ho => rfl); (case hg => rfl); (case hn => rfl); (case hr => first | (go_simp; done) | (go_simp; rfl)); intro w102 hw; have hg : w42.grownBy w102 (some go86) := (by rw [hw]; exact HP101.2); have hp_ : Kd.R Kd.string 9 w102 w.heap.size (fun k_ => some k_ ≠ (.slice Ao16 t16.length co16 : Value).ownBlock ∧ some k_ ≠ (.slice Ao10 t7.length co10 : Value).ownBlock) (.slice (some ⟨go86, 0, none⟩) y42.length co100) y62 := (by rw [hw, Ny62.out]; exact HP101.1); clear HP101; replace HO_8 := am_ (Kd.R_after (v := (.slice (some ⟨go86, 0, none⟩) y42.length co100)) (v1 := (.slice (some ⟨go86, 0, none⟩) y42.length co100)) (ok := (fun k_ => some k_ ≠ (.slice Ao10 t7.length co10 : Value).ownBlock)) (kr_ HO_8.out) hg (.inl rfl)); replace HO_9 := am_ (Kd.R_over' (v := (.slice (some ⟨go86, 0, none⟩) y42.length co100)) (kr_ HO_9.out) (Kd.R_typed HO44.out) (by decide) hg); replace HO_25000 := am_ (Kd.R_after (v := (.slice (some ⟨go86, 0, none⟩) y42.length co100)) (v1 := (.slice (some ⟨go86, 0, none⟩) y42.length co100)) (ok := (fun k_ => some k_ ≠ (.slice Ao16 t16.length co16 : Value).ownBlock)) (kr_ HO_25000.out) hg (.inl rfl)); replace HO_25003 := am_ (Kd.R_over' (v := (.slice (some ⟨go86, 0, none⟩) y42.length co100)) (kr_ HO_25003.out) (Kd.R_typed HO44.out) (by decide) hg); replace BK1 := kg_ BK1 HO44 hg; replace BK2 := kg_ BK2 HO44 hg; replace BK24 := kg_ BK24 HO44 hg; replace HI6 := am_ (IsS84.grown (in84_ HI6) hg (IsS84.own_ne HI6.out HO44.out (by decide))); replace BK34 := kg_ BK34 HO44 hg; replace HO44 := am_ hp_; replace HB := am_ ((by rw [hw]; exact below_set (HB.out) GB86.out : Below w.heap.size w w102)); clear hg hw hp_))
       replace HO_8 := am_ (Kd.R_drew HO_8.out)
       replace HO_9 := am_ (Kd.R_drew HO_9.out)
       replace HO_25000 := am_ (Kd.R_drew HO_25000.out)
       replace HO_25003 := am_ (Kd.R_drew HO_25003.out)
       replace HO44 := am_ (Kd.R_drew HO44.out)
       replace BK1 := bd_ BK1
       replace BK2 := bd_ BK2
       replace BK24 := bd_ BK24
       replace BK34 := bd_ BK34
       replace HI6 := am_ (IsS84.drew HI6.out)
       replace HB := hd_ HB
       refine sw_ 8 (fun w' => w'.cell? ⟨gb24, 0, none⟩ = some (.slice Ao10 t7.length co10) ∧ w'.cell? ⟨gb24, 1, none⟩ = some (.int .i64 t10) ∧ w'.cell? ⟨gb24, 2, none⟩ = some (.string t11) ∧ w'.cell? ⟨gb24, 3, none⟩ = some (.slice Ao15 t12.length co15) ∧ w'.cell? ⟨gb24, 4, none⟩ = some (.int .i64 t15) ∧ w'.cell? ⟨gb34, 0, none⟩ = some (.int .i64 t32) ∧ w'.cell? ⟨gb34, 1, none⟩ = some (.string t33)) [] spec_DrawCommit.tab17 spec_DrawCommit.bits17 ⟨bc0_ BK24.out, bc1_ BK24.out, bc2_ BK24.out, bc3_ BK24.out, bc4_ BK24.out, bc0_ BK34.out, bc1_ BK34.out⟩ (fun hHeld HT_ HW_ => ?_)
       generalize w102.drew = w103 at HO_8 HO_9 HO_25000 HO_25003 HO44 BK1 BK2 BK24 BK34 HI6 HB hHeld ⊢
       refine pt_ 1 68 2 ?_
       refine pt_ 3 70 10 ?_
       refine tt_ 0 67 11 ?_
       refine tt_ 2 69 15 ?_
       refine one_ (i := 4) (N := none) (lz_ 8 31) rfl rfl (one_of HT_.out (by kernel_rfl)) (by decide) (fun K hK => ?_)
       have hs104 := bc0_ BK1.out
       have hfs104 := blk_frozen BK1.out 0
       have hns104_1 := NB2_1.out
       have hns104_2 := NB24_1.out
       have hns104_3 := NB34_1.out
       have hms104_1 := NB1_2.out
       have hms104_2 := NB1_24.out
       have hms104_3 := NB1_34.out
       have hs105 := bc1_ BK1.out
       have hfs105 := blk_frozen BK1.out 1
       have hns105_1 := NB2_1.out
       have hns105_2 := NB24_1.out
       have hns105_3 := NB34_1.out
       have hms105_1 := NB1_2.out
       have hms105_2 := NB1_24.out
       have hms105_3 := NB1_34.out
       have hs106 := bc2_ BK1.out
       have hfs106 := blk_frozen BK1.out 2
       have hns106_1 := NB2_1.out
       have hns106_2 := NB24_1.out
       have hns106_3 := NB34_1.out
       have hms106_1 := NB1_2.out
       have hms106_2 := NB1_24.out
       have hms106_3 := NB1_34.out
       have hs107 := bc3_ BK1.out
       have hfs107 := blk_frozen BK1.out 3
       have hns107_1 := NB2_1.out
       have hns107_2 := NB24_1.out
       have hns107_3 := NB34_1.out
       have hms107_1 := NB1_2.out
       have hms107_2 := NB1_24.out
       have hms107_3 := NB1_34.out
       have hs108 := bc4_ BK1.out
       have hfs108 := blk_frozen BK1.out 4
       have hns108_1 := NB2_1.out
       have hns108_2 := NB24_1.out
       have hns108_3 := NB34_1.out
       have hms108_1 := NB1_2.out
       have hms108_2 := NB1_24.out
       have hms108_3 := NB1_34.out
       refine skip_ (w1 := ?_) (by rfl) rfl ?_ ?_
       rotate_left
       ·go_simp
        rfl
       refine hK.out _ _ ⟨(cf_ NB24_1 hHeld.1), (cf_ NB24_1 hHeld.2.1), (cf_ NB24_1 hHeld.2.2.1), (cf_ NB24_1 hHeld.2.2.2.1), (cf_ NB24_1 hHeld.2.2.2.2.1), (cf_ NB34_1 hHeld.2.2.2.2.2.1), (cf_ NB34_1 hHeld.2.2.2.2.2.2)⟩ (fun hHeld => ?_)
       clear hK K
       refine pt_ 5 3 63 ?_
       refine one_ (i := 6) (N := none) (lz_ 8 127) rfl rfl (one_of HT_.out (by kernel_rfl)) (by decide) (fun K hK => ?_)
       have hs109 := bc0_ BK2.out
       have hfs109 := blk_frozen BK2.out 0
       have hns109_0 := NB1_2.out
       have hns109_2 := NB24_2.out
       have hns109_3 := NB34_2.out
       have hms109_0 := NB2_1.out
       have hms109_2 := NB2_24.out
       have hms109_3 := NB2_34.out
       have hs110 := bc1_ BK2.out
       have hfs110 := blk_frozen BK2.out 1
       have hns110_0 := NB1_2.out
       have hns110_2 := NB24_2.out
       have hns110_3 := NB34_2.out
       have hms110_0 := NB2_1.out
       have hms110_2 := NB2_24.out
       have hms110_3 := NB2_34.out
       refine skip_ (w1 := ?_) (by rfl) rfl ?_ ?_
       rotate_left
       ·go_simp
        rfl
       refine hK.out _ _ ⟨(cf_ NB24_2 hHeld.1), (cf_ NB24_2 hHeld.2.1), (cf_ NB24_2 hHeld.2.2.1), (cf_ NB24_2 hHeld.2.2.2.1), (cf_ NB24_2 hHeld.2.2.2.2.1), (cf_ NB34_2 hHeld.2.2.2.2.2.1), (cf_ NB34_2 hHeld.2.2.2.2.2.2)⟩ (fun hHeld => ?_)
       clear hK K
       refine pt_ 7 5 255 ?_
       refine dn_ ?_
       try go_wp2
       refine bodyPost_ret (results_list (rs := [.cell 2 39, .tmp 3, .cell 4 25, .tmp 5]) rfl (by simp) (.cell gb1 39 #[.slice Ao10 t7.length co10, .int .i64 t10, .string t11, .slice Ao15 t12.length co15, .int .i64 t15] (0, 0) _ rfl (by exact kq_ BK1) Try.underlying39 rfl (by kernel_rfl) (.tmp (.cell gb2 25 #[.int .i64 t32, .string t33] (0, 0) _ rfl (by exact kq_ BK2) Try.underlying25 rfl (by kernel_rfl) (.tmp .nil))))) rfl ?_
       exact ⟨_, _, _, _, e2_, kr_ (Kd.R_mono (Kd.R_far (p := ⟨gb2, 1, none⟩) (Kd.R_far (p := ⟨gb2, 0, none⟩) (Kd.R_far (p := ⟨gb1, 4, none⟩) (Kd.R_far (p := ⟨gb1, 3, none⟩) (Kd.R_far (p := ⟨gb1, 2, none⟩) (Kd.R_far (p := ⟨gb1, 1, none⟩) (Kd.R_far (p := ⟨gb1, 0, none⟩) (Kd.R_types (Kd.R_types HO_25000.out BK1.out (by decide)) BK2.out (by decide)) (fun _ hk => hk.1.2) (.slice Ao10 t7.length co10)) (fun _ hk => hk.1.2) (.int .i64 t10)) (fun _ hk => hk.1.2) (.string t11)) (fun _ hk => hk.1.2) (.slice Ao15 t12.length co15)) (fun _ hk => hk.1.2) (.int .i64 t15)) (fun _ hk => hk.2) (.int .i64 t32)) (fun _ hk => hk.2) (.string t33)) (fun _ hk => hk.1.1.2)), kfm2_ HO_25003 BK1 BK2, kr_ (Kd.R_mono (Kd.R_far (p := ⟨gb2, 1, none⟩) (Kd.R_far (p := ⟨gb2, 0, none⟩) (Kd.R_far (p := ⟨gb1, 4, none⟩) (Kd.R_far (p := ⟨gb1, 3, none⟩) (Kd.R_far (p := ⟨gb1, 2, none⟩) (Kd.R_far (p := ⟨gb1, 1, none⟩) (Kd.R_far (p := ⟨gb1, 0, none⟩) (Kd.R_mono (Kd.R_types HO_9.out BK1.out (by decide)) (fun k_ hk => (⟨hk, hk.1.1⟩ : _ ∧ k_ ≠ gb2))) (fun _ hk => hk.1.2) (.slice Ao10 t7.length co10)) (fun _ hk => hk.1.2) (.int .i64 t10)) (fun _ hk => hk.1.2) (.string t11)) (fun _ hk => hk.1.2) (.slice Ao15 t12.length co15)) (fun _ hk => hk.1.2) (.int .i64 t15)) (fun _ hk => hk.2) (.int .i64 t32)) (fun _ hk => hk.2) (.string t33)) (fun _ hk => trivial)), kr_ (Kd.R_mono (Kd.R_far (p := ⟨gb2, 1, none⟩) (Kd.R_far (p := ⟨gb2, 0, none⟩) (Kd.R_far (p := ⟨gb1, 4, none⟩) (Kd.R_far (p := ⟨gb1, 3, none⟩) (Kd.R_far (p := ⟨gb1, 2, none⟩) (Kd.R_far (p := ⟨gb1, 1, none⟩) (Kd.R_far (p := ⟨gb1, 0, none⟩) (Kd.R_types (Kd.R_types HO44.out BK1.out (by decide)) BK2.out (by decide)) (fun _ hk => hk.1.2) (.slice Ao10 t7.length co10)) (fun _ hk => hk.1.2) (.int .i64 t10)) (fun _ hk => hk.1.2) (.string t11)) (fun _ hk => hk.1.2) (.slice Ao15 t12.length co15)) (fun _ hk => hk.1.2) (.int .i64 t15)) (fun _ hk => hk.2) (.int .i64 t32)) (fun _ hk => hk.2) (.string t33)) (fun _ hk => hk.1.1.2)), bi84_ HB⟩
      ·have c84b0 : decide (0 < (y42.length : Int)) = false := decide_eq_false c84
       have c84b1 : decide (0 < y42.length) = false := decide_eq_false (by omega)
       clear c84
       simp only [Option.some.injEq, Prod.mk.injEq] at H
       obtain ⟨rfl, rfl, rfl, rfl, rfl, rfl, rfl, rfl, rfl⟩ := H
       obtain ⟨Ao124, co124, eo124⟩ := Kd.R_slice HO44.out; subst eo124
       try go_wp2
       replace HO_8 := am_ (Kd.R_drew HO_8.out)
       replace HO_9 := am_ (Kd.R_drew HO_9.out)
       replace HO_25000 := am_ (Kd.R_drew HO_25000.out)
       replace HO_25003 := am_ (Kd.R_drew HO_25003.out)
       replace HO44 := am_ (Kd.R_drew HO44.out)
       replace BK1 := bd_ BK1
       replace BK2 := bd_ BK2
       replace BK24 := bd_ BK24
       replace BK34 := bd_ BK34
       replace HI6 := am_ (IsS84.drew HI6.out)
       replace HB := hd_ HB
       refine sw_ 8 (fun w' => w'.cell? ⟨gb24, 0, none⟩ = some (.slice Ao10 t7.length co10) ∧ w'.cell? ⟨gb24, 1, none⟩ = some (.int .i64 t10) ∧ w'.cell? ⟨gb24, 2, none⟩ = some (.string t11) ∧ w'.cell? ⟨gb24, 3, none⟩ = some (.slice Ao15 t12.length co15) ∧ w'.cell? ⟨gb24, 4, none⟩ = some (.int .i64 t15) ∧ w'.cell? ⟨gb34, 0, none⟩ = some (.int .i64 t32) ∧ w'.cell? ⟨gb34, 1, none⟩ = some (.string t33)) [] spec_DrawCommit.tab17 spec_DrawCommit.bits17 ⟨bc0_ BK24.out, bc1_ BK24.out, bc2_ BK24.out, bc3_ BK24.out, bc4_ BK24.out, bc0_ BK34.out, bc1_ BK34.out⟩ (fun hHeld HT_ HW_ => ?_)
       generalize w42.drew = w125 at HO_8 HO_9 HO_25000 HO_25003 HO44 BK1 BK2 BK24 BK34 HI6 HB hHeld ⊢
       refine pt_ 1 68 2 ?_
       refine pt_ 3 70 10 ?_
       refine tt_ 0 67 11 ?_
       refine tt_ 2 69 15 ?_
       refine one_ (i := 4) (N := none) (lz_ 8 31) rfl rfl (one_of HT_.out (by kernel_rfl)) (by decide) (fun K hK => ?_)
       have hs126 := bc0_ BK1.out
       have hfs126 := blk_frozen BK1.out 0
       have hns126_1 := NB2_1.out
       have hns126_2 := NB24_1.out
       have hns126_3 := NB34_1.out
       have hms126_1 := NB1_2.out
       have hms126_2 := NB1_24.out
       have hms126_3 := NB1_34.out
       have hs127 := bc1_ BK1.out
       have hfs127 := blk_frozen BK1.out 1
       have hns127_1 := NB2_1.out
       have hns127_2 := NB24_1.out
       have hns127_3 := NB34_1.out
       have hms127_1 := NB1_2.out
       have hms127_2 := NB1_24.out
       have hms127_3 := NB1_34.out
       have hs128 := bc2_ BK1.out
       have hfs128 := blk_frozen BK1.out 2
       have hns128_1 := NB2_1.out
       have hns128_2 := NB24_1.out
       have hns128_3 := NB34_1.out
       have hms128_1 := NB1_2.out
       have hms128_2 := NB1_24.out
       have hms128_3 := NB1_34.out
       have hs129 := bc3_ BK1.out
       have hfs129 := blk_frozen BK1.out 3
       have hns129_1 := NB2_1.out
       have hns129_2 := NB24_1.out
       have hns129_3 := NB34_1.out
       have hms129_1 := NB1_2.out
       have hms129_2 := NB1_24.out
       have hms129_3 := NB1_34.out
       have hs130 := bc4_ BK1.out
       have hfs130 := blk_frozen BK1.out 4
       have hns130_1 := NB2_1.out
       have hns130_2 := NB24_1.out
       have hns130_3 := NB34_1.out
       have hms130_1 := NB1_2.out
       have hms130_2 := NB1_24.out
       have hms130_3 := NB1_34.out
       refine skip_ (w1 := ?_) (by rfl) rfl ?_ ?_
       rotate_left
       ·go_simp
        rfl
       refine hK.out _ _ ⟨(cf_ NB24_1 hHeld.1), (cf_ NB24_1 hHeld.2.1), (cf_ NB24_1 hHeld.2.2.1), (cf_ NB24_1 hHeld.2.2.2.1), (cf_ NB24_1 hHeld.2.2.2.2.1), (cf_ NB34_1 hHeld.2.2.2.2.2.1), (cf_ NB34_1 hHeld.2.2.2.2.2.2)⟩ (fun hHeld => ?_)
       clear hK K
       refine pt_ 5 3 63 ?_
       refine one_ (i := 6) (N := none) (lz_ 8 127) rfl rfl (one_of HT_.out (by kernel_rfl)) (by decide) (fun K hK => ?_)
       have hs131 := bc0_ BK2.out
       have hfs131 := blk_frozen BK2.out 0
       have hns131_0 := NB1_2.out
       have hns131_2 := NB24_2.out
       have hns131_3 := NB34_2.out
       have hms131_0 := NB2_1.out
       have hms131_2 := NB2_24.out
       have hms131_3 := NB2_34.out
       have hs132 := bc1_ BK2.out
       have hfs132 := blk_frozen BK2.out 1
       have hns132_0 := NB1_2.out
       have hns132_2 := NB24_2.out
       have hns132_3 := NB34_2.out
       have hms132_0 := NB2_1.out
       have hms132_2 := NB2_24.out
       have hms132_3 := NB2_34.out
       refine skip_ (w1 := ?_) (by rfl) rfl ?_ ?_
       rotate_left
       ·go_simp
        rfl
       refine hK.out _ _ ⟨(cf_ NB24_2 hHeld.1), (cf_ NB24_2 hHeld.2.1), (cf_ NB24_2 hHeld.2.2.1), (cf_ NB24_2 hHeld.2.2.2.1), (cf_ NB24_2 hHeld.2.2.2.2.1), (cf_ NB34_2 hHeld.2.2.2.2.2.1), (cf_ NB34_2 hHeld.2.2.2.2.2.2)⟩ (fun hHeld => ?_)
       clear hK K
       refine pt_ 7 5 255 ?_
       refine dn_ ?_
       try go_wp2
       refine bodyPost_ret (results_list (rs := [.cell 2 39, .tmp 3, .cell 4 25, .tmp 5]) rfl (by simp) (.cell gb1 39 #[.slice Ao10 t7.length co10, .int .i64 t10, .string t11, .slice Ao15 t12.length co15, .int .i64 t15] (0, 0) _ rfl (by exact kq_ BK1) Try.underlying39 rfl (by kernel_rfl) (.tmp (.cell gb2 25 #[.int .i64 t32, .string t33] (0, 0) _ rfl (by exact kq_ BK2) Try.underlying25 rfl (by kernel_rfl) (.tmp .nil))))) rfl ?_
       exact ⟨_, _, _, _, e2_, kr_ (Kd.R_mono (Kd.R_far (p := ⟨gb2, 1, none⟩) (Kd.R_far (p := ⟨gb2, 0, none⟩) (Kd.R_far (p := ⟨gb1, 4, none⟩) (Kd.R_far (p := ⟨gb1, 3, none⟩) (Kd.R_far (p := ⟨gb1, 2, none⟩) (Kd.R_far (p := ⟨gb1, 1, none⟩) (Kd.R_far (p := ⟨gb1, 0, none⟩) (Kd.R_types (Kd.R_types HO_25000.out BK1.out (by decide)) BK2.out (by decide)) (fun _ hk => hk.1.2) (.slice Ao10 t7.length co10)) (fun _ hk => hk.1.2) (.int .i64 t10)) (fun _ hk => hk.1.2) (.string t11)) (fun _ hk => hk.1.2) (.slice Ao15 t12.length co15)) (fun _ hk => hk.1.2) (.int .i64 t15)) (fun _ hk => hk.2) (.int .i64 t32)) (fun _ hk => hk.2) (.string t33)) (fun _ hk => hk.1.1.2)), kfm2_ HO_25003 BK1 BK2, kr_ (Kd.R_mono (Kd.R_far (p := ⟨gb2, 1, none⟩) (Kd.R_far (p := ⟨gb2, 0, none⟩) (Kd.R_far (p := ⟨gb1, 4, none⟩) (Kd.R_far (p := ⟨gb1, 3, none⟩) (Kd.R_far (p := ⟨gb1, 2, none⟩) (Kd.R_far (p := ⟨gb1, 1, none⟩) (Kd.R_far (p := ⟨gb1, 0, none⟩) (Kd.R_mono (Kd.R_types HO_9.out BK1.out (by decide)) (fun k_ hk => (⟨hk, hk.1.1⟩ : _ ∧ k_ ≠ gb2))) (fun _ hk => hk.1.2) (.slice Ao10 t7.length co10)) (fun _ hk => hk.1.2) (.int .i64 t10)) (fun _ hk => hk.1.2) (.string t11)) (fun _ hk => hk.1.2) (.slice Ao15 t12.length co15)) (fun _ hk => hk.1.2) (.int .i64 t15)) (fun _ hk => hk.2) (.int .i64 t32)) (fun _ hk => hk.2) (.string t33)) (fun _ hk => trivial)), kr_ (Kd.R_mono (Kd.R_far (p := ⟨gb2, 1, none⟩) (Kd.R_far (p := ⟨gb2, 0, none⟩) (Kd.R_far (p := ⟨gb1, 4, none⟩) (Kd.R_far (p := ⟨gb1, 3, none⟩) (Kd.R_far (p := ⟨gb1, 2, none⟩) (Kd.R_far (p := ⟨gb1, 1, none⟩) (Kd.R_far (p := ⟨gb1, 0, none⟩) (Kd.R_types (Kd.R_types HO44.out BK1.out (by decide)) BK2.out (by decide)) (fun _ hk => hk.1.2) (.slice Ao10 t7.length co10)) (fun _ hk => hk.1.2) (.int .i64 t10)) (fun _ hk => hk.1.2) (.string t11)) (fun _ hk => hk.1.2) (.slice Ao15 t12.length co15)) (fun _ hk => hk.1.2) (.int .i64 t15)) (fun _ hk => hk.2) (.int .i64 t32)) (fun _ hk => hk.2) (.string t33)) (fun _ hk => hk.1.1.2)), bi84_ HB⟩
     ·have c83b0 : (t45 == 2) = false := beq_eq_false_iff_ne.mpr c83
      have c83b1 : (t45 != 2) = true := bne_iff_ne.mpr c83
      simp only [Option.some.injEq, Prod.mk.injEq] at H
      obtain ⟨rfl, rfl, rfl, rfl, rfl, rfl, rfl, rfl, rfl⟩ := H
      try go_wp2
      replace HO_8 := am_ (Kd.R_drew HO_8.out)
      replace HO_9 := am_ (Kd.R_drew HO_9.out)
      replace HO_25000 := am_ (Kd.R_drew HO_25000.out)
      replace HO_25003 := am_ (Kd.R_drew HO_25003.out)
      replace HO44 := am_ (Kd.R_drew HO44.out)
      replace BK1 := bd_ BK1
      replace BK2 := bd_ BK2
      replace BK24 := bd_ BK24
      replace BK34 := bd_ BK34
      replace HI6 := am_ (IsS84.drew HI6.out)
      replace HB := hd_ HB
      refine sw_ 8 (fun w' => w'.cell? ⟨gb24, 0, none⟩ = some (.slice Ao10 t7.length co10) ∧ w'.cell? ⟨gb24, 1, none⟩ = some (.int .i64 t10) ∧ w'.cell? ⟨gb24, 2, none⟩ = some (.string t11) ∧ w'.cell? ⟨gb24, 3, none⟩ = some (.slice Ao15 t12.length co15) ∧ w'.cell? ⟨gb24, 4, none⟩ = some (.int .i64 t15) ∧ w'.cell? ⟨gb34, 0, none⟩ = some (.int .i64 t32) ∧ w'.cell? ⟨gb34, 1, none⟩ = some (.string t33)) [] spec_DrawCommit.tab17 spec_DrawCommit.bits17 ⟨bc0_ BK24.out, bc1_ BK24.out, bc2_ BK24.out, bc3_ BK24.out, bc4_ BK24.out, bc0_ BK34.out, bc1_ BK34.out⟩ (fun hHeld HT_ HW_ => ?_)
      generalize w42.drew = w146 at HO_8 HO_9 HO_25000 HO_25003 HO44 BK1 BK2 BK24 BK34 HI6 HB hHeld ⊢
      refine pt_ 1 68 2 ?_
      refine pt_ 3 70 10 ?_
      refine tt_ 0 67 11 ?_
      refine tt_ 2 69 15 ?_
      refine one_ (i := 4) (N := none) (lz_ 8 31) rfl rfl (one_of HT_.out (by kernel_rfl)) (by decide) (fun K hK => ?_)
      have hs147 := bc0_ BK1.out
      have hfs147 := blk_frozen BK1.out 0
      have hns147_1 := NB2_1.out
      have hns147_2 := NB24_1.out
      have hns147_3 := NB34_1.out
      have hms147_1 := NB1_2.out
      have hms147_2 := NB1_24.out
      have hms147_3 := NB1_34.out
      have hs148 := bc1_ BK1.out
      have hfs148 := blk_frozen BK1.out 1
      have hns148_1 := NB2_1.out
      have hns148_2 := NB24_1.out
      have hns148_3 := NB34_1.out
      have hms148_1 := NB1_2.out
      have hms148_2 := NB1_24.out
      have hms148_3 := NB1_34.out
      have hs149 := bc2_ BK1.out
      have hfs149 := blk_frozen BK1.out 2
      have hns149_1 := NB2_1.out
      have hns149_2 := NB24_1.out
      have hns149_3 := NB34_1.out
      have hms149_1 := NB1_2.out
      have hms149_2 := NB1_24.out
      have hms149_3 := NB1_34.out
      have hs150 := bc3_ BK1.out
      have hfs150 := blk_frozen BK1.out 3
      have hns150_1 := NB2_1.out
      have hns150_2 := NB24_1.out
      have hns150_3 := NB34_1.out
      have hms150_1 := NB1_2.out
      have hms150_2 := NB1_24.out
      have hms150_3 := NB1_34.out
      have hs151 := bc4_ BK1.out
      have hfs151 := blk_frozen BK1.out 4
      have hns151_1 := NB2_1.out
      have hns151_2 := NB24_1.out
      have hns151_3 := NB34_1.out
      have hms151_1 := NB1_2.out
      have hms151_2 := NB1_24.out
      have hms151_3 := NB1_34.out
      refine skip_ (w1 := ?_) (by rfl) rfl ?_ ?_
      rotate_left
      ·go_simp
       rfl
      refine hK.out _ _ ⟨(cf_ NB24_1 hHeld.1), (cf_ NB24_1 hHeld.2.1), (cf_ NB24_1 hHeld.2.2.1), (cf_ NB24_1 hHeld.2.2.2.1), (cf_ NB24_1 hHeld.2.2.2.2.1), (cf_ NB34_1 hHeld.2.2.2.2.2.1), (cf_ NB34_1 hHeld.2.2.2.2.2.2)⟩ (fun hHeld => ?_)
      clear hK K
      refine pt_ 5 3 63 ?_
      refine one_ (i := 6) (N := none) (lz_ 8 127) rfl rfl (one_of HT_.out (by kernel_rfl)) (by decide) (fun K hK => ?_)
      have hs152 := bc0_ BK2.out
      have hfs152 := blk_frozen BK2.out 0
      have hns152_0 := NB1_2.out
      have hns152_2 := NB24_2.out
      have hns152_3 := NB34_2.out
      have hms152_0 := NB2_1.out
      have hms152_2 := NB2_24.out
      have hms152_3 := NB2_34.out
      have hs153 := bc1_ BK2.out
      have hfs153 := blk_frozen BK2.out 1
      have hns153_0 := NB1_2.out
      have hns153_2 := NB24_2.out
      have hns153_3 := NB34_2.out
      have hms153_0 := NB2_1.out
      have hms153_2 := NB2_24.out
      have hms153_3 := NB2_34.out
      refine skip_ (w1 := ?_) (by rfl) rfl ?_ ?_
      rotate_left
      ·go_simp
       rfl
      refine hK.out _ _ ⟨(cf_ NB24_2 hHeld.1), (cf_ NB24_2 hHeld.2.1), (cf_ NB24_2 hHeld.2.2.1), (cf_ NB24_2 hHeld.2.2.2.1), (cf_ NB24_2 hHeld.2.2.2.2.1), (cf_ NB34_2 hHeld.2.2.2.2.2.1), (cf_ NB34_2 hHeld.2.2.2.2.2.2)⟩ (fun hHeld => ?_)
      clear hK K
      refine pt_ 7 5 255 ?_
      refine dn_ ?_
      try go_wp2
      refine bodyPost_ret (results_list (rs := [.cell 2 39, .tmp 3, .cell 4 25, .tmp 5]) rfl (by simp) (.cell gb1 39 #[.slice Ao10 t7.length co10, .int .i64 t10, .string t11, .slice Ao15 t12.length co15, .int .i64 t15] (0, 0) _ rfl (by exact kq_ BK1) Try.underlying39 rfl (by kernel_rfl) (.tmp (.cell gb2 25 #[.int .i64 t32, .string t33] (0, 0) _ rfl (by exact kq_ BK2) Try.underlying25 rfl (by kernel_rfl) (.tmp .nil))))) rfl ?_
      exact ⟨_, _, _, _, e2_, kr_ (Kd.R_mono (Kd.R_far (p := ⟨gb2, 1, none⟩) (Kd.R_far (p := ⟨gb2, 0, none⟩) (Kd.R_far (p := ⟨gb1, 4, none⟩) (Kd.R_far (p := ⟨gb1, 3, none⟩) (Kd.R_far (p := ⟨gb1, 2, none⟩) (Kd.R_far (p := ⟨gb1, 1, none⟩) (Kd.R_far (p := ⟨gb1, 0, none⟩) (Kd.R_types (Kd.R_types HO_25000.out BK1.out (by decide)) BK2.out (by decide)) (fun _ hk => hk.1.2) (.slice Ao10 t7.length co10)) (fun _ hk => hk.1.2) (.int .i64 t10)) (fun _ hk => hk.1.2) (.string t11)) (fun _ hk => hk.1.2) (.slice Ao15 t12.length co15)) (fun _ hk => hk.1.2) (.int .i64 t15)) (fun _ hk => hk.2) (.int .i64 t32)) (fun _ hk => hk.2) (.string t33)) (fun _ hk => hk.1.1.2)), kfm2_ HO_25003 BK1 BK2, kr_ (Kd.R_mono (Kd.R_far (p := ⟨gb2, 1, none⟩) (Kd.R_far (p := ⟨gb2, 0, none⟩) (Kd.R_far (p := ⟨gb1, 4, none⟩) (Kd.R_far (p := ⟨gb1, 3, none⟩) (Kd.R_far (p := ⟨gb1, 2, none⟩) (Kd.R_far (p := ⟨gb1, 1, none⟩) (Kd.R_far (p := ⟨gb1, 0, none⟩) (Kd.R_mono (Kd.R_types HO_9.out BK1.out (by decide)) (fun k_ hk => (⟨hk, hk.1.1⟩ : _ ∧ k_ ≠ gb2))) (fun _ hk => hk.1.2) (.slice Ao10 t7.length co10)) (fun _ hk => hk.1.2) (.int .i64 t10)) (fun _ hk => hk.1.2) (.string t11)) (fun _ hk => hk.1.2) (.slice Ao15 t12.length co15)) (fun _ hk => hk.1.2) (.int .i64 t15)) (fun _ hk => hk.2) (.int .i64 t32)) (fun _ hk => hk.2) (.string t33)) (fun _ hk => trivial)), kr_ (Kd.R_mono (Kd.R_far (p := ⟨gb2, 1, none⟩) (Kd.R_far (p := ⟨gb2, 0, none⟩) (Kd.R_far (p := ⟨gb1, 4, none⟩) (Kd.R_far (p := ⟨gb1, 3, none⟩) (Kd.R_far (p := ⟨gb1, 2, none⟩) (Kd.R_far (p := ⟨gb1, 1, none⟩) (Kd.R_far (p := ⟨gb1, 0, none⟩) (Kd.R_types (Kd.R_types HO44.out BK1.out (by decide)) BK2.out (by decide)) (fun _ hk => hk.1.2) (.slice Ao10 t7.length co10)) (fun _ hk => hk.1.2) (.int .i64 t10)) (fun _ hk => hk.1.2) (.string t11)) (fun _ hk => hk.1.2) (.slice Ao15 t12.length co15)) (fun _ hk => hk.1.2) (.int .i64 t15)) (fun _ hk => hk.2) (.int .i64 t32)) (fun _ hk => hk.2) (.string t33)) (fun _ hk => hk.1.1.2)), bi84_ HB⟩
def spec_Commit.j0 : Nat → List (S25) → List ByteArray → Bool → List ByteArray → Int → ByteArray → List Int → Int → Int → ByteArray → Option (List ByteArray × Int × ByteArray × List Int × Int × Int)
 | 0, _, _, _, _, _, _, _, _, _, _ => none
 | k + 1, x1, x3, x23, x2000, x2001, x2002, x2003, x2004, x3000, x3001 => if x23 = true then ((spec_l12Copy.f x2000 x2001 x2002 x2003 x2004).bind fun bt8 => (some (bt8.1, bt8.2.1, bt8.2.2.1, bt8.2.2.2.1, bt8.2.2.2.2, 1))) else ((spec_l12Commit.f k x2000 x2001 x2002 x2003 x2004 x1 x3000 x3001 x3).bind fun bt17 => (some (bt17.1, bt17.2.1, bt17.2.2.1, bt17.2.2.2.1, bt17.2.2.2.2.1, bt17.2.2.2.2.2)))
def spec_Commit.f (k : Nat) (l0_0 : List ByteArray) (a0_1 : Int) (a0_2 : ByteArray) (l0_3 : List Int) (a0_4 : Int) (l1 : List (S25)) (a2_0 : Int) (a2_1 : ByteArray) (l3 : List ByteArray) : Option (List ByteArray × Int × ByteArray × List Int × Int × Int) := (spec_StoreOk.f k l0_0 a0_1 a0_2 l0_3 a0_4).bind fun t4 => (if t4 = true then ((spec_l12Put.f k a2_0 a2_1 l3).bind fun t5 => (spec_Commit.j0 k l1 l3 (decide ((wrap64 ((l0_3.length : Int) + (t5.length : Int))) > 60000)) l0_0 a0_1 a0_2 l0_3 a0_4 a2_0 a2_1)) else (spec_Commit.j0 k l1 l3 true l0_0 a0_1 a0_2 l0_3 a0_4 a2_0 a2_1))
def spec_Commit.T1 : Bool × List (List Nat × List Nat) := (true, [([], []), ([0], [0]), ([1], [1]), ([2, 1], [2]), ([3], [3]), ([4, 3], [3, 4]), ([5, 3], [3, 5]), ([3], [3]), ([3], [3]), ([7, 8, 3, 3], [3, 7, 8]), ([9, 3], [3, 9]), ([6, 10, 3], [3, 6, 10]), ([11, 3], [3, 11]), ([3, 12], [3, 12])])
def spec_Commit.B1 : List Nat := [0, 1, 3, 7, 15, 31, 63, 15, 15, 399, 911, 2047, 4095, 8191]
theorem spec_Commit.tab1 : rtab .any (opsOf Try.f16 1) = spec_Commit.T1 := by kernel_rfl
theorem spec_Commit.bits1 : waitsOk spec_Commit.T1.2 spec_Commit.B1 = true := by kernel_rfl
theorem spec_Commit.calls (k : Nat) (A0_0 : Option Addr) (c0_0 : Nat) (l0_0 : List ByteArray) (a0_1 : Int) (a0_2 : ByteArray) (A0_3 : Option Addr) (c0_3 : Nat) (l0_3 : List Int) (a0_4 : Int) (A1 : Option Addr) (c1 : Nat) (l1 : List (S25)) (a2_0 : Int) (a2_1 : ByteArray) (A3 : Option Addr) (c3 : Nat) (l3 : List ByteArray) (r1 : List ByteArray) (r2 : Int) (r3 : ByteArray) (r4 : List Int) (r5 : Int) (r6 : Int) (w : World) (hr0_0 : Kd.C Kd.string w A0_0 l0_0.length l0_0) (hc0_0 : l0_0.length ≤ c0_0) (hr0_3 : Kd.C (Kd.int .u8) w A0_3 l0_3.length l0_3) (hc0_3 : l0_3.length ≤ c0_3) (hr1 : Kd.C k25 w A1 l1.length l1) (hc1 : l1.length ≤ c1) (hr3 : Kd.C Kd.string w A3 l3.length l3) (hc3 : l3.length ≤ c3) (h : spec_Commit.f k l0_0 a0_1 a0_2 l0_3 a0_4 l1 a2_0 a2_1 l3 = some (r1, r2, r3, r4, r5, r6)) :
  Calls Try.prog 16 #[.agg #[.slice A0_0 l0_0.length c0_0, .int .i64 a0_1, .string a0_2, .slice A0_3 l0_3.length c0_3, .int .i64 a0_4], .slice A1 l1.length c1, .agg #[.int .i64 a2_0, .string a2_1], .slice A3 l3.length c3] w fun e w' => ∃ v0_ v3_ : Value, e = .returned (.tuple #[.agg #[v0_, .int .i64 r2, .string r3, v3_, .int .i64 r5], .int .i64 r6]) ∧ Kd.R Kd.string 9 w' w.heap.size (fun _ => True) v0_ r1 ∧ Kd.R (Kd.int .u8) 5 w' w.heap.size (fun _ => True) v3_ r4 ∧ Below w.heap.size w w' := by
 have hu39 := Try.underlying39
 have hu25 := Try.underlying25
 have HR0_0 := am_ hr0_0
 have HC0_0 := am_ hc0_0
 clear hr0_0 hc0_0
 have HR0_3 := am_ hr0_3
 have HC0_3 := am_ hc0_3
 clear hr0_3 hc0_3
 have HR1 := am_ hr1
 have HC1 := am_ hc1
 clear hr1 hc1
 have HR3 := am_ hr3
 have HC3 := am_ hc3
 clear hr3 hc3
 have HB := h0_ w
 have H : ((spec_StoreOk.f k l0_0 a0_1 a0_2 l0_3 a0_4).bind fun t4 => (if t4 = true then ((spec_l12Put.f k a2_0 a2_1 l3).bind fun t5 => (spec_Commit.j0 k l1 l3 (decide ((wrap64 ((l0_3.length : Int) + (t5.length : Int))) > 60000)) l0_0 a0_1 a0_2 l0_3 a0_4 a2_0 a2_1)) else (spec_Commit.j0 k l1 l3 true l0_0 a0_1 a0_2 l0_3 a0_4 a2_0 a2_1))) = some (r1, r2, r3, r4, r5, r6) := h
 clear h
 have HC5 := am_ H
 clear H
 go_enter Try.func16, Try.ntmps16
 go_upto_region 1 with (first | ((with_reducible refine gd_ 4 ?_); (try (refine gate_guard (by rfl) ?_; dsimp only)); refine bx_ 4 39 #[.slice A0_0 l0_0.length c0_0, .int .i64 a0_1, .string a0_2, .slice A0_3 l0_3.length c0_3, .int .i64 a0_4] (hx_ HB ?_); clear HB; intro gb1 w6 BK1 GW1 HB; have GE1 := GW1) | ((with_reducible refine gd_ 6 ?_); (try (refine gate_guard (by rfl) ?_; dsimp only)); refine bx_ 6 25 #[.int .i64 a2_0, .string a2_1] ?_; intro gb2 hg w7 hbox hb; have BK2 := am_ hbox; have GW2 := gg_ hg HB; have GE2 := GW2; replace HB := ss_ HB hb; have NB1_2 := nla_ hg BK1; have NB2_1 := nga_ hg BK1; replace BK1 := kl_ BK1 hb; clear hb hbox hg) | ((with_reducible refine gd_ 8 ?_); (try (refine gate_guard (by rfl) ?_; dsimp only)); refine x39_ 8 ?_; intro gb3 hg w8 hbox hb; have BK3 := am_ hbox; have GW3 := gg_ hg HB; have GE3 := GW3; replace HB := ss_ HB hb; have NB1_3 := nla_ hg BK1; have NB3_1 := nga_ hg BK1; replace BK1 := kl_ BK1 hb; have NB2_3 := nla_ hg BK2; have NB3_2 := nga_ hg BK2; replace BK2 := kl_ BK2 hb; clear hb hbox hg))
 (try simp only [Act.put, List.setIfInBounds_toArray, List.set_cons_zero, List.set_cons_succ])
 go_cut [23] (fun v23 wc => ∃ (kq : Nat) (x23_4 : Bool), v23 = .bool x23_4 ∧ Aside0 (spec_Commit.j0 kq l1 l3 x23_4 l0_0 a0_1 a0_2 l0_3 a0_4 a2_0 a2_1 = some (r1, r2, r3, r4, r5, r6)) ∧ Aside0 (kq ≤ k) ∧ Aside0 (wc.heap[gb1]? = some (.cells #[(.slice A0_0 l0_0.length c0_0), .int .i64 a0_1, .string a0_2, (.slice A0_3 l0_3.length c0_3), .int .i64 a0_4] 39 (0, 0))) ∧ Aside0 (wc.heap[gb2]? = some (.cells #[.int .i64 a2_0, .string a2_1] 25 (0, 0))) ∧ Aside0 (wc.heap[gb3]? = some (.cells #[(.slice none 0 0), .int .i64 0, .string (⟨#[]⟩ : ByteArray), (.slice none 0 0), .int .i64 0] 39 (0, 0))) ∧ Aside0 (Below w.heap.size w wc))
 case first =>
  have H := HC5.out
  clear HC5
  replace H := bi_ H; obtain ⟨t4, A9, H⟩ := H
  replace H := itb_ H; obtain ⟨rfl, H⟩ | ⟨rfl, H⟩ := H
  ·replace H := bi_ H; obtain ⟨t5, A11, H⟩ := H
   have H' := am_ H
   clear H
   try go_wp2
   replace BK1 := bd_ BK1
   replace BK2 := bd_ BK2
   replace BK3 := bd_ BK3
   replace HB := hd_ HB
   refine sw_ 14 (fun w' => w'.cell? ⟨gb1, 0, none⟩ = some (.slice A0_0 l0_0.length c0_0) ∧ w'.cell? ⟨gb1, 1, none⟩ = some (.int .i64 a0_1) ∧ w'.cell? ⟨gb1, 2, none⟩ = some (.string a0_2) ∧ w'.cell? ⟨gb1, 3, none⟩ = some (.slice A0_3 l0_3.length c0_3) ∧ w'.cell? ⟨gb1, 4, none⟩ = some (.int .i64 a0_4) ∧ w'.cell? ⟨gb2, 0, none⟩ = some (.int .i64 a2_0) ∧ w'.cell? ⟨gb2, 1, none⟩ = some (.string a2_1)) [] spec_Commit.tab1 spec_Commit.bits1 ⟨bc0_ BK1.out, bc1_ BK1.out, bc2_ BK1.out, bc3_ BK1.out, bc4_ BK1.out, bc0_ BK2.out, bc1_ BK2.out⟩ (fun hHeld HT_ HW_ => ?_)
   generalize w8.drew = w12 at BK1 BK2 BK3 HB hHeld ⊢
   refine tt_ 0 10 1 ?_
   refine oz_ 1 11 14 3 (fun K hK => ?_)
   refine gf_ Try.func46 (spec_StoreOk.calls k _ _ l0_0 a0_1 a0_2 _ _ l0_3 a0_4 true _ (cb_ HR0_0 HB) HC0_0.out (cb_ HR0_3 HB) HC0_3.out A9.out) ?_
   rintro e w13 ⟨rfl, hb⟩
   refine ⟨_, rfl, ?_⟩
   replace BK1 := kl_ BK1 hb
   replace BK2 := kl_ BK2 hb
   replace BK3 := kl_ BK3 hb
   replace HB := ss_ HB hb
   clear hb
   refine hK.out _ _ ⟨bc0_ BK1.out, bc1_ BK1.out, bc2_ BK1.out, bc3_ BK1.out, bc4_ BK1.out, bc0_ BK2.out, bc1_ BK2.out⟩ (fun hHeld => ?_)
   clear hK K
   refine no_ 11 ?_
   refine pt_ 2 12 7 ?_
   refine pt_ 3 13 15 ?_
   refine pt_ 4 14 31 ?_
   refine pt_ 8 18 287 ?_
   refine tt_ 5 15 319 ?_
   refine pt_ 6 16 383 ?_
   refine tt_ 7 17 511 ?_
   refine oz_ 9 19 14 1023 (fun K hK => ?_)
   refine gf_ Try.func47 (spec_l12Put.calls k a2_0 a2_1 _ _ l3 t5 _ (cb_ HR3 HB) HC3.out A11.out) ?_
   rintro e w14 ⟨v6, rfl, ho0, hb⟩
   refine ⟨_, rfl, ?_⟩
   have HO7 := rlo_ ho0 HB
   replace BK1 := kl_ BK1 hb
   replace BK2 := kl_ BK2 hb
   replace BK3 := kl_ BK3 hb
   replace HB := ss_ HB hb
   clear hb ho0
   obtain ⟨Ao15, co15, eo15⟩ := Kd.R_slice HO7.out
   (first | subst eo15 | (injection eo15 with f1_ f2_ f3_; have f4_ := f1_.symm; have f5_ := f3_.symm; clear f1_ f2_ f3_; subst f4_; subst f5_))
   refine hK.out _ _ ⟨bc0_ BK1.out, bc1_ BK1.out, bc2_ BK1.out, bc3_ BK1.out, bc4_ BK1.out, bc0_ BK2.out, bc1_ BK2.out⟩ (fun hHeld => ?_)
   clear hK K
   refine no_ 19 ?_
   refine pt_ 10 20 2047 ?_
   refine pt_ 11 21 4095 ?_
   refine pt_ 12 22 8191 ?_
   refine pt_ 13 23 16383 ?_
   refine dn_ ?_
   try go_wp2
   go_meet
   case rel => exact ⟨_, (decide ((wrap64 ((l0_3.length : Int) + (t5.length : Int))) > 60000)), e1_, H', ⟨le_⟩, ⟨kb_ BK1.out⟩, ⟨kb_ BK2.out⟩, ⟨kb_ BK3.out⟩, ⟨bw_ HB⟩⟩
  ·have H' := am_ H
   clear H
   try go_wp2
   replace BK1 := bd_ BK1
   replace BK2 := bd_ BK2
   replace BK3 := bd_ BK3
   replace HB := hd_ HB
   refine sw_ 14 (fun w' => w'.cell? ⟨gb1, 0, none⟩ = some (.slice A0_0 l0_0.length c0_0) ∧ w'.cell? ⟨gb1, 1, none⟩ = some (.int .i64 a0_1) ∧ w'.cell? ⟨gb1, 2, none⟩ = some (.string a0_2) ∧ w'.cell? ⟨gb1, 3, none⟩ = some (.slice A0_3 l0_3.length c0_3) ∧ w'.cell? ⟨gb1, 4, none⟩ = some (.int .i64 a0_4)) [] spec_Commit.tab1 spec_Commit.bits1 ⟨bc0_ BK1.out, bc1_ BK1.out, bc2_ BK1.out, bc3_ BK1.out, bc4_ BK1.out⟩ (fun hHeld HT_ HW_ => ?_)
   generalize w8.drew = w16 at BK1 BK2 BK3 HB hHeld ⊢
   refine tt_ 0 10 1 ?_
   refine oz_ 1 11 14 3 (fun K hK => ?_)
   refine gf_ Try.func46 (spec_StoreOk.calls k _ _ l0_0 a0_1 a0_2 _ _ l0_3 a0_4 false _ (cb_ HR0_0 HB) HC0_0.out (cb_ HR0_3 HB) HC0_3.out A9.out) ?_
   rintro e w17 ⟨rfl, hb⟩
   refine ⟨_, rfl, ?_⟩
   replace BK1 := kl_ BK1 hb
   replace BK2 := kl_ BK2 hb
   replace BK3 := kl_ BK3 hb
   replace HB := ss_ HB hb
   clear hb
   refine hK.out _ _ ⟨bc0_ BK1.out, bc1_ BK1.out, bc2_ BK1.out, bc3_ BK1.out, bc4_ BK1.out⟩ (fun hHeld => ?_)
   clear hK K
   refine no_ 11 ?_
   refine pt_ 2 12 7 ?_
   refine pt_ 3 13 15 ?_
   refine ut_ 4 14 31 ?_
   refine ut_ 5 15 63 ?_
   refine ut_ 6 16 127 ?_
   refine ut_ 7 17 255 ?_
   refine ut_ 8 18 511 ?_
   refine ut_ 9 19 1023 ?_
   refine ut_ 10 20 2047 ?_
   refine ut_ 11 21 4095 ?_
   refine ut_ 12 22 8191 ?_
   refine pt_ 13 23 16383 ?_
   refine dn_ ?_
   try go_wp2
   go_meet
   case rel => exact ⟨_, (true), e1_, H', ⟨le_⟩, ⟨kb_ BK1.out⟩, ⟨kb_ BK2.out⟩, ⟨kb_ BK3.out⟩, ⟨bw_ HB⟩⟩
 case rest =>
  clear HC5
  obtain ⟨kq, x23_4, rfl, HA, HJ4, BK1, BK2, BK3, HB⟩ := hcut
  cases kq with
  | zero => exact absurd HA.out (by simp [spec_Commit.j0])
  | succ kj4 =>
   have H := HA.out
   clear HA
   simp only [spec_Commit.j0] at H
   replace H := itb_ H; obtain ⟨rfl, H⟩ | ⟨rfl, H⟩ := H
   ·replace H := bi_ H; obtain ⟨⟨t8, t11, t12, t13, t16⟩, A19, H⟩ := H
    dsimp only at H
    replace H := so6_ H; obtain ⟨rfl, rfl, rfl, rfl, rfl, rfl⟩ := H
    have hnb20 := NB1_2.out
    have hnc20 := NB2_1.out
    have hnb21 := NB1_3.out
    have hnc21 := NB3_1.out
    have hz22 := cz5_ BK1
    go_wp2_with (first | ((with_reducible refine gq_ 48 25 ?_); refine gc_ 25 Try.func48 (spec_l12Copy.calls _ _ l0_0 a0_1 a0_2 _ _ l0_3 a0_4 t8 t11 t12 t13 t16 _ (cb_ HR0_0 HB) HC0_0.out (cb_ HR0_3 HB) HC0_3.out A19.out) ?_; rintro e w23 ⟨v9, v14, rfl, ho0, ho1, hb⟩; refine ⟨_, rfl, ?_⟩; have HO10 := rlo_ ho0 HB; have HO15 := rlo_ ho1 HB; replace BK1 := kl_ BK1 hb; replace BK2 := kl_ BK2 hb; replace BK3 := kl_ BK3 hb; replace HB := ss_ HB hb; clear hb ho0 ho1; obtain ⟨Ao24, co24, eo24⟩ := Kd.R_slice HO10.out; subst eo24; have hnb25 := NB3_2.out; have hnc25 := NB2_3.out; have hz26 := cz5_ BK3; obtain ⟨Ao27, co27, eo27⟩ := Kd.R_slice HO15.out; subst eo27))
    refine bodyPost_ret (results_ct rfl _ _ gb3 39 #[.slice Ao24 t8.length co24, .int .i64 t11, .string t12, .slice Ao27 t13.length co27, .int .i64 t16] (0, 0) _ rfl (by exact kq_ BK3) Try.underlying39 rfl (by kernel_rfl)) rfl ?_
    exact ⟨_, _, e2_, kfm_ HO10 BK3, kfm_ HO15 BK3, bw_ HB⟩
   ·replace H := bi_ H; obtain ⟨⟨t17, t20, t21, t22, t25, t26⟩, A28, H⟩ := H
    dsimp only at H
    replace H := so6_ H; obtain ⟨rfl, rfl, rfl, rfl, rfl, rfl⟩ := H
    have hnb29 := NB1_2.out
    have hnc29 := NB2_1.out
    have hnb30 := NB1_3.out
    have hnc30 := NB3_1.out
    have hz31 := cz5_ BK1
    have hnb32 := NB2_3.out
    have hnc32 := NB3_2.out
    have hz33 := cz2_ BK2
    go_wp2_with (first | ((with_reducible refine gq_ 49 30 ?_); refine gc_ 30 Try.func49 (spec_l12Commit.calls kj4 _ _ l0_0 a0_1 a0_2 _ _ l0_3 a0_4 _ _ l1 a2_0 a2_1 _ _ l3 t17 t20 t21 t22 t25 t26 _ (cb_ HR0_0 HB) HC0_0.out (cb_ HR0_3 HB) HC0_3.out (cb_ HR1 HB) HC1.out (cb_ HR3 HB) HC3.out A28.out) ?_; rintro e w34 ⟨v18, v623, rfl, ho0, ho1, hb⟩; refine ⟨_, rfl, ?_⟩; have HO19 := rlo_ ho0 HB; have HO24 := rlo_ ho1 HB; replace BK1 := kl_ BK1 hb; replace BK2 := kl_ BK2 hb; replace BK3 := kl_ BK3 hb; replace HB := ss_ HB hb; clear hb ho0 ho1; obtain ⟨Ao35, co35, eo35⟩ := Kd.R_slice HO19.out; subst eo35; have hz36 := cz5_ BK3; obtain ⟨Ao37, co37, eo37⟩ := Kd.R_slice HO24.out; subst eo37))
    refine bodyPost_ret (results_ct rfl _ _ gb3 39 #[.slice Ao35 t17.length co35, .int .i64 t20, .string t21, .slice Ao37 t22.length co37, .int .i64 t25] (0, 0) _ rfl (by exact kq_ BK3) Try.underlying39 rfl (by kernel_rfl)) rfl ?_
    exact ⟨_, _, e2_, kfm_ HO19 BK3, kfm_ HO24 BK3, bw_ HB⟩
def laws_big.f (l0 : List Int) : Option (Bool) := some (decide ((l0.length : Int) > 1048576))
theorem laws_big.calls (A0 : Option Addr) (c0 : Nat) (l0 : List Int) (r : Bool) (w : World) (hr0 : Kd.C (Kd.int .u8) w A0 l0.length l0) (hc0 : l0.length ≤ c0) (h : laws_big.f l0 = some r) :
  Calls Try.prog 5 #[.slice A0 l0.length c0] w fun e w' => e = .returned (.bool r) ∧ Drawn0 w w' := by
 have HR0 := am_ hr0
 have HC0 := am_ hc0
 clear hr0 hc0
 have H : (some (decide ((l0.length : Int) > 1048576))) = some r := h
 clear h
 obtain rfl := Option.some.inj H
 go_enter Try.func5, Try.ntmps5
 go_wp2
 go_ret
 exact ⟨e1_, dw_⟩
end Go.Proofs.Ytnlndmoecljicaa.Q
end
section
namespace Go.Proofs.Ytnlndmoecljicaa.Q
open Go.Proofs.YtnlndmoecljicaaW.PrintLast Go.Proofs.YtnlndmoecljicaaW.PrintMore Go.Proofs.YtnlndmoecljicaaW.PrintWords Go.RowKit Go.Shelf
set_option maxHeartbeats 8000000
set_option maxRecDepth 100000
section
structure BelowBut (B g : Nat) (w w' : World) : Prop where
 os : w'.os = w.os
 tape : w'.tape = w.tape
 output : w'.output = w.output
 size : w.heap.size ≤ w'.heap.size
 block : ∀ k, k < B → k ≠ g → w'.heap[k]? = w.heap[k]?
theorem BelowBut.refl (B g : Nat) (w : World) : BelowBut B g w w := ⟨rfl, rfl, rfl, Nat.le_refl _, fun _ _ _ => rfl⟩
theorem BelowBut.trans {B g : Nat} {a b c : World} (h : BelowBut B g a b) (k : BelowBut B g b c) : BelowBut B g a c :=
 ⟨k.os.trans h.os, k.tape.trans h.tape, k.output.trans h.output, Nat.le_trans h.size k.size, fun i hi hn => (k.block i hi hn).trans (h.block i hi hn)⟩
theorem BelowBut.drew {B g : Nat} {a w : World} (h : BelowBut B g a w) : BelowBut B g a w.drew := ⟨h.os, h.tape, h.output, h.size, h.block⟩
theorem BelowBut.grown {B g : Nat} {w w' : World} (h : w.grownBy w' (some g)) (hB : B ≤ w.heap.size) : BelowBut B g w w' :=
 ⟨h.os, h.tape, h.output, h.size, fun k hk hn => h.block k (by omega) (fun e => hn (Option.some.inj e))⟩
theorem BelowBut.putObj {n₀ g : Nat} {w : World} (hn : n₀ ≤ w.heap.size) (W : World) (l : Nat) (o o' : Obj) (hl : w.heap.size ≤ l) (h : W.heap[l]? = some o) (_ : o.isCells = false) (_ : o.isWalk = false) : BelowBut n₀ g W (W.putObj l o') := by
 have hg := grownBy_putObj' W l o'
 exact ⟨hg.os, hg.tape, hg.output, hg.size, fun k hk _ => hg.block k (by have := (Array.getElem?_eq_some_iff.1 h).1; omega) (fun e => by cases e; omega)⟩
theorem BelowBut.cell {B g : Nat} {w w' : World} (h : BelowBut B g w w') {p : Addr} (hp : p.block < B) (hn : p.block ≠ g) : w'.cell? p = w.cell? p := World.cell?_of_block (w := w) (h.block p.block hp hn)
def starts (k : Nat) : List Nat := (List.range k).map (64 * ·)
theorem starts_succ (k : Nat) : starts (k + 1) = starts k ++ [64 * k] := by simp [starts, List.range_succ]
theorem starts_length (k : Nat) : (starts k).length = k := by simp [starts]
attribute [local go_sem] Oper.semAt_some
set_option maxHeartbeats 2000000 in
theorem chunk1_in (F : Fence) (n : Nat) (hF : F.fn 110) (hro : F.round = none) (hn : 1 ≤ n) (l Bs Bn n₀ gh b off cap m L : Nat) (hL : L = 64 * m) (hcap : L ≤ cap) (hreach : L ≤ 140737488355328)
  (hb : b < n₀) (hbs : Bs < n₀) (hbn : Bn < n₀) (hs1 : Bs ≠ gh) (hs2 : Bn ≠ gh) (J Jx : List Nat → World → Prop)
  (hY : ∀ pre x W, J pre W → pre.length < m → x + 64 ≤ L → YieldAt F (n - 1) Try.prog l #[.slice (some ⟨b, off + x, none⟩) 64 64] W fun e W' =>
   (e = .returned (.bool true) ∧ J (pre ++ [x]) W' ∧ BelowBut n₀ gh W W') ∨ (e = .returned (.bool false) ∧ Jx (pre ++ [x]) W'))
  (W : World) (hJ : AbidesFrom W.heap.size J) (hBs : W.cell? ⟨Bs, 0, none⟩ = some (.slice (some ⟨b, off, none⟩) L cap)) (hBn : W.cell? ⟨Bn, 0, none⟩ = some (.int .i64 64)) (h0 : J [] W) :
  CallsIn F n Try.prog 110 #[.func (.yield l) #[] #[], .pointer (some ⟨Bs, 0, none⟩), .pointer (some ⟨Bn, 0, none⟩)] W fun e W' => (∃ v, e = .returned v) ∧
   ((∃ ys, ys = starts m ∧ J ys W') ∨ (∃ pre, True ∧ Jx pre W')) := by
 refine callsIn_of_wp Try.func110 rfl hF ?_ hro
 have HL := am_ hL
 clear hL
 simp only [Try.ntmps110, List.size_toArray, List.length_cons, List.length_nil, Nat.reduceAdd, Nat.reduceSub, Array.replicate_succ, Array.replicate_zero, List.push_toArray, List.append_toArray, List.nil_append, List.cons_append]
 gi_wp2
 gi_loopw [4] (fun i wr => ∃ k i0 : Nat, k ≤ m ∧ Aside0 (i0 = 64 * k) ∧ i = .int .i64 i0 ∧ J (starts k) wr ∧ BelowBut n₀ gh W wr)
  (fun i _ => L - (intOf i).toNat)
 case atStart => exact ⟨0, 0, Nat.zero_le _, ⟨rfl⟩, rfl, h0, BelowBut.refl _ _ _⟩
 case round =>
  obtain ⟨k, i, hk, HI, rfl, hJs, hnx⟩ := hrel
  have c1 : wr.cell? ⟨Bs, 0, none⟩ = some (.slice (some ⟨b, off, none⟩) L cap) := (hnx.cell (p := ⟨Bs, 0, none⟩) hbs hs1).trans hBs
  have c2 : wr.cell? ⟨Bn, 0, none⟩ = some (.int .i64 64) := (hnx.cell (p := ⟨Bn, 0, none⟩) hbn hs2).trans hBn
  have hi := HI.out
  have hl := HL.out
  by_cases hlt : i < L
  ·have hdrew : J (starts k) wr.drew := hJ _ _ _ none hJs ⟨rfl, rfl, rfl, Nat.le_refl _, fun _ _ _ => rfl⟩ (fun r e => by cases e)
   obtain ⟨fn, tmps, assign, body, hy, hR⟩ := hY _ i wr.drew hdrew (by rw [starts_length]; omega) (by omega)
   have hle : i + 64 ≤ L := by omega
   clear hi hl
   have b1 : decide (i < L) = true := decide_eq_true hlt
   gi_wp2
   gi_region
   all_goals
    gi_wp2
    refine hR.mono ?_
    rintro e W3 (⟨rfl, hJ3, hk3⟩ | ⟨rfl, hJx3⟩)
    ·have c3 : W3.cell? ⟨Bn, 0, none⟩ = some (.int .i64 64) := (hk3.cell (p := ⟨Bn, 0, none⟩) hbn hs2).trans c2
     gi_wp2
     go_roundw
     case rel => exact ⟨k + 1, i + 64, by have h1 := HI.out; have h2 := HL.out; omega, ⟨by have h1 := HI.out; omega⟩, by go_num, by rw [starts_succ, ← HI.out]; exact hJ3, hnx.drew.trans hk3⟩
     case measure => simp [intOf]; omega
    ·gi_wp2
     refine bodyPost_ret (results_none rfl _ _ _) rfl ?_
     exact ⟨⟨_, rfl⟩, .inr ⟨_, trivial, hJx3⟩⟩
  ·have b1 : decide (i < L) = false := decide_eq_false hlt
   have hkm : k = m := by omega
   rw [hkm] at hJs
   clear hi hl hkm
   gi_wp2
   go_end0
   exact ⟨⟨_, rfl⟩, .inl ⟨_, rfl, hJs⟩⟩
theorem chunk_stops (F : Fence) (n : Nat) (hF : F.fn 110) (hro : F.round = none) (hn : 1 ≤ n) (Bs Bn n₀ gh b off cap m L : Nat) (hL : L = 64 * m) (hcap : L ≤ cap) (hreach : L ≤ 140737488355328)
  (hb : b < n₀) (hbs : Bs < n₀) (hbn : Bn < n₀) (hs1 : Bs ≠ gh) (hs2 : Bn ≠ gh) (w : World) (hn₀ : n₀ ≤ w.heap.size)
  (hBs : w.cell? ⟨Bs, 0, none⟩ = some (.slice (some ⟨b, off, none⟩) L cap)) (hBn : w.cell? ⟨Bn, 0, none⟩ = some (.int .i64 64)) :
  SeqStopsK F n Try.prog 110 #[.pointer (some ⟨Bs, 0, none⟩), .pointer (some ⟨Bn, 0, none⟩)] (fun x : { x : Nat // x + 64 ≤ L } => #[Value.slice (some ⟨b, off + x.1, none⟩) 64 64]) (BelowBut n₀ gh)
   (fun ys => ys.map (·.1) = starts m) (fun _ => True) m w := fun l J Jx W hW hJ _ hY h0 => by
 have hBs' := (hW.cell (p := ⟨Bs, 0, none⟩) (Nat.lt_of_lt_of_le hbs hn₀)).trans hBs
 have hBn' := (hW.cell (p := ⟨Bn, 0, none⟩) (Nat.lt_of_lt_of_le hbn hn₀)).trans hBn
 refine (chunk1_in F n hF hro hn l Bs Bn n₀ gh b off cap m L hL hcap hreach hb hbs hbn hs1 hs2 (fun pre W => ∃ q : List { x : Nat // x + 64 ≤ L }, q.map (·.1) = pre ∧ J q W) (fun pre W => ∃ q : List { x : Nat // x + 64 ≤ L }, q.map (·.1) = pre ∧ Jx q W) ?_ W ?_ hBs' hBn' ⟨[], rfl, h0⟩).mono ?_
 ·rintro pre x W1 ⟨q, rfl, hq⟩ hlen hx
  obtain ⟨fn, tmps, assign, body, hy, hR⟩ := hY q ⟨x, hx⟩ W1 hq (by simpa using hlen)
  refine ⟨fn, tmps, assign, body, hy, hR.mono ?_⟩
  rintro e W' (⟨rfl, hJ1, hk⟩ | ⟨rfl, hJx⟩)
  ·exact .inl ⟨rfl, ⟨_, by simp, hJ1⟩, hk⟩
  ·exact .inr ⟨rfl, _, by simp, hJx⟩
 ·rintro s A B row ⟨q, rfl, hq⟩ hg hr
  exact ⟨q, rfl, hJ q A B row hq hg hr⟩
 ·rintro e W' ⟨he, ⟨ys, rfl, q, hq, hj⟩ | ⟨pre, _, q, hq, hj⟩⟩
  ·exact ⟨he, .inl ⟨q, hq, hj⟩⟩
  ·exact ⟨he, .inr ⟨q, trivial, hj⟩⟩
set_option maxHeartbeats 1000000 in
theorem chunk_in (F : Fence) (n : Nat) (hF : F.fn 106) (hro : F.round = none) (a : Option Addr) (len cap : Nat) (w : World) :
  CallsIn F n Try.prog 106 #[.slice a len cap, .int .i64 64] w fun e w' => e = .returned (.func (.func 110) #[] #[.pointer (some ⟨w.heap.size, 0, none⟩), .pointer (some ⟨w.heap.size + 1, 0, none⟩)]) ∧ w' = (w.alloc (.cells #[.slice a len cap] 22)).alloc (.cells #[.int .i64 64] 3) := by
 refine callsIn_of_wp Try.func106 rfl hF ?_ hro
 simp only [Try.ntmps106, List.size_toArray, List.length_cons, List.length_nil, Nat.reduceAdd, Nat.reduceSub, Array.replicate_succ, Array.replicate_zero, List.push_toArray, List.append_toArray, List.nil_append, List.cons_append]
 gi_wp2
 go_ret
 exact ⟨rfl, rfl⟩
end
end Go.Proofs.Ytnlndmoecljicaa.Q
end
section
namespace Go.Proofs.Ytnlndmoecljicaa.Q
open Go.Proofs.Ytnlndmoecljicaa.B Go.Proofs.YtnlndmoecljicaaW.PrintMore Go.Proofs.YtnlndmoecljicaaW.PrintWords Go.RowKit
set_option maxHeartbeats 8000000
set_option maxRecDepth 100000
def zerosOf (n : Nat) : Nat := (119 - n % 64) % 64
def tailBytes (n : Int) : Nat → List Int
 | 0 => []
 | j + 1 => (shr .i64 n (8 * (j : Int))) % 256 :: tailBytes n j
def len8 (n : Int) : List Int := tailBytes n 8
theorem tailBytes_length (n : Int) (j : Nat) : (tailBytes n j).length = j := by
 induction j with
 | zero => rfl
 | succ j ih => simp [tailBytes, ih]
theorem tailBytes_bytes (n : Int) (j : Nat) : ∀ x ∈ tailBytes n j, 0 ≤ x ∧ x ≤ 255 := by
 induction j with
 | zero => simp [tailBytes]
 | succ j ih =>
  intro x hx
  rcases List.mem_cons.1 hx with rfl | hx
  ·omega
  ·exact ih x hx
def padL (l : List Int) : List Int := l ++ [128] ++ List.replicate (zerosOf l.length) 0 ++ len8 (8 * l.length)
theorem padL_length (l : List Int) : (padL l).length % 64 = 0 := by
 simp [padL, len8, tailBytes_length, zerosOf]
 omega
theorem padL_bytes (l : List Int) (h : ∀ x ∈ l, 0 ≤ x ∧ x ≤ 255) : ∀ x ∈ padL l, 0 ≤ x ∧ x ≤ 255 := by
 intro x hx
 simp only [padL, len8, List.mem_append, List.mem_replicate] at hx
 rcases hx with ((hx | hx) | hx) | hx
 ·exact h x hx
 ·simp at hx
  omega
 ·omega
 ·exact tailBytes_bytes _ _ x hx
theorem padL_size (l : List Int) : (padL l).length ≤ l.length + 72 := by
 simp [padL, len8, tailBytes_length, zerosOf]
 omega
theorem u64_eight (j : Nat) (hj : j ≤ 7) : IntKind.u64.wrap (wrap64 (8 * (j : Int))) = 8 * (j : Int) := by
 rw [w64 (by omega) (by omega), IntWalk.u64_in _ ⟨by omega, by omega⟩]
theorem padded_l1 (n : Int) : ∀ (j : Nat) (acc : List Int), j ≤ 8 → acc.length + j ≤ 140737488355320 → Ev (fun k => impl_Padded.l1 k acc n ((j : Int) - 1)) (acc ++ tailBytes n j) := by
 intro j
 induction j with
 | zero =>
  intro acc _ _
  refine Ev.step (f := fun _ => some acc) (fun k => ?_) (Ev.one (Ev.now _) (by simp [tailBytes]))
  simp only [impl_Padded.l1]
  rw [if_neg (by omega)]
 | succ j ih =>
  intro acc h1 h2
  refine Ev.step (fun k => ?_) (Ev.one (ih (acc ++ [(shr .i64 n (8 * (j : Int))) % 256]) (by omega) (by simp; omega)) (by simp [tailBytes]))
  simp only [impl_Padded.l1]
  have hj : (((j + 1 : Nat) : Int) - 1) = (j : Int) := by omega
  rw [hj, if_pos (by omega), u64_eight j (by omega), if_pos (by omega), if_pos (by omega), w64 (by omega) (by omega)]
theorem padded_l0 (l : List Int) (hl : l.length ≤ 1099511627776) : ∀ (d i : Nat) (acc : List Int), i + d = zerosOf l.length → acc = l ++ [128] ++ List.replicate i 0 → Ev (fun k => impl_Padded.l0 k l acc) (padL l) := by
 intro d
 induction d with
 | zero =>
  intro i acc hi ha
  have hlen : acc.length = l.length + 1 + i := by rw [ha]; simp; omega
  have hz : zerosOf l.length = (119 - l.length % 64) % 64 := rfl
  refine Ev.step (fun k => ?_) (Ev.one (padded_l1 (8 * (l.length : Int)) 8 acc (by omega) (by omega)) ?_)
  ·simp only [impl_Padded.l0]
   rw [w64 (by omega) (by omega), Int.tmod_eq_emod_of_nonneg (by omega), if_pos (by omega), w64 (by omega) (by omega)]
   rfl
  ·rw [ha, show i = zerosOf l.length from by omega]
   rfl
 | succ d ih =>
  intro i acc hi ha
  have hlen : acc.length = l.length + 1 + i := by rw [ha]; simp; omega
  have hz : zerosOf l.length = (119 - l.length % 64) % 64 := rfl
  refine Ev.step (fun k => ?_) (ih (i + 1) (acc ++ [0]) (by omega) (by rw [ha, List.append_assoc (l ++ [128])]; congr 1; rw [List.replicate_succ']))
  simp only [impl_Padded.l0]
  rw [w64 (by omega) (by omega), Int.tmod_eq_emod_of_nonneg (by omega), if_neg (by omega), if_pos (by omega)]
theorem impl_Padded_ev (l : List Int) (hl : l.length ≤ 1099511627776) : Ev (fun k => impl_Padded.f k l) (padL l) := by
 refine Ev.congr (fun k => ?_) (padded_l0 l hl (zerosOf l.length) 0 (l ++ [128]) (by omega) (by simp))
 unfold impl_Padded.f slices_Clone_byte_byte.f
 rw [if_pos (by omega)]
 simp only [Option.bind_some]
 rw [if_pos (by omega)]
theorem spec_in_eq (a b c : Int) : spec_l1In.f a b c = some (decide (b ≤ a ∧ a ≤ c)) := by
 unfold spec_l1In.f
 by_cases h : a ≥ b
 ·rw [if_pos h]
  by_cases h2 : a ≤ c
  ·rw [decide_eq_true h2, decide_eq_true ⟨h, h2⟩]
  ·rw [decide_eq_false h2, decide_eq_false (fun q => h2 q.2)]
 ·rw [if_neg h, decide_eq_false (fun q => h q.1)]
theorem impl_in_eq (a b c : Int) : impl_inRange.f a b c = some (decide (b ≤ a ∧ a ≤ c)) := spec_in_eq a b c
theorem nextC {i n : Nat} (h : i < n) (hn : n ≤ 9223372036854775807) : wrap64 ((i : Int) + 1) = ((i + 1 : Nat) : Int) := by
 rw [w64 (by omega) (by omega)]
 omega
theorem spec_same_ev (a b : List ByteArray) (ha : a.length ≤ 9223372036854775807) : Ev (fun k => spec_l8Same.f k a b) (decide (a = b)) := by
 unfold spec_l8Same.f
 by_cases hl : a.length = b.length
 ·have main : ∀ (d i : Nat), i + d = a.length → a.take i = b.take i → Ev (fun k => spec_l8Same.l0 k a b (i : Int)) (decide (a = b)) := by
   intro d
   induction d with
   | zero =>
    intro i hi ht
    rw [List.take_of_length_le (by omega), List.take_of_length_le (by omega)] at ht
    rw [decide_eq_true ht]
    refine Ev.step (fun k => by simp only [spec_l8Same.l0]; rfl) ?_
    exact Ev.neg (by omega) (Ev.now _)
   | succ d ih =>
    intro i hi ht
    obtain ⟨x, hx⟩ := get_some (l := a) (i := i) (by omega)
    obtain ⟨y, hy⟩ := get_some (l := b) (i := i) (by omega)
    refine Ev.step (fun k => by simp only [spec_l8Same.l0]; rfl) ?_
    rw [rdOf_at hx, rdOf_at hy, nextC (show i < a.length by omega) ha]
    by_cases h : x.toList = y.toList
    ·have e := bytes_ext h
     subst e
     exact Ev.pos (by omega) (Ev.pos (by omega) (Ev.pos (by omega) (Ev.pos rfl (ih (i + 1) (by omega) (by rw [take_one hx, take_one hy, ht])))))
    ·have hn : ¬ a = b := by
      intro e
      subst e
      rw [hx] at hy
      exact h (by rw [Option.some.inj hy])
     rw [decide_eq_false hn]
     exact Ev.pos (by omega) (Ev.pos (by omega) (Ev.pos (by omega) (Ev.neg h (Ev.now _))))
  exact Ev.pos (by omega) (main a.length 0 (by omega) (by simp))
 ·have hn : ¬ a = b := fun e => hl (by rw [e])
  rw [decide_eq_false hn]
  exact Ev.neg (by omega) (Ev.now _)
theorem impl_same_ev (a b : List ByteArray) (ha : a.length ≤ 9223372036854775807) : Ev (fun k => slices_Equal_string_string.f k a b) (decide (a = b)) := by
 unfold slices_Equal_string_string.f
 by_cases hl : a.length = b.length
 ·have main : ∀ (d i : Nat), i + d = a.length → a.take i = b.take i → Ev (fun k => slices_Equal_string_string.l0 k a b (a.length : Int) (i : Int)) (decide (a = b)) := by
   intro d
   induction d with
   | zero =>
    intro i hi ht
    rw [List.take_of_length_le (by omega), List.take_of_length_le (by omega)] at ht
    rw [decide_eq_true ht]
    refine Ev.step (fun k => by simp only [slices_Equal_string_string.l0]; rfl) ?_
    exact Ev.neg (by omega) (Ev.now _)
   | succ d ih =>
    intro i hi ht
    obtain ⟨x, hx⟩ := get_some (l := a) (i := i) (by omega)
    obtain ⟨y, hy⟩ := get_some (l := b) (i := i) (by omega)
    refine Ev.step (fun k => by simp only [slices_Equal_string_string.l0]; rfl) ?_
    rw [rdOf_at hx, rdOf_at hy, nextC (show i < a.length by omega) ha]
    by_cases h : x.toList = y.toList
    ·have e := bytes_ext h
     subst e
     exact Ev.pos (by omega) (Ev.pos (by omega) (Ev.pos (by omega) (Ev.pos (by omega) (Ev.pos rfl (ih (i + 1) (by omega) (by rw [take_one hx, take_one hy, ht]))))))
    ·have hn : ¬ a = b := by
      intro e
      subst e
      rw [hx] at hy
      exact h (by rw [Option.some.inj hy])
     rw [decide_eq_false hn]
     exact Ev.pos (by omega) (Ev.pos (by omega) (Ev.pos (by omega) (Ev.pos (by omega) (Ev.neg h (Ev.now _)))))
  exact Ev.pos (by omega) (main a.length 0 (by omega) (by simp))
 ·have hn : ¬ a = b := fun e => hl (by rw [e])
  rw [decide_eq_false hn]
  exact Ev.neg (by omega) (Ev.now _)
abbrev IHead := S25
def hasHead (l : List IHead) (a : Int) (b : ByteArray) : Bool := l.any fun x => x.f0 == a && (x.f1.toList == b.toList)
theorem rdI {l : List IHead} {i : Nat} {x : IHead} (h : l[i]? = some x) : rd_T25 l (i : Int) = x := by
 unfold rd_T25
 simp [List.getD_eq_getElem?_getD, h]
theorem next64 {i n : Nat} (h : i < n) (hn : n ≤ 9223372036854775807) : wrap64 ((i : Int) + 1) = ((i + 1 : Nat) : Int) := by
 rw [w64 (by omega) (by omega)]
 omega
theorem spec_IsSigned_ev (l : List IHead) (a : Int) (b : ByteArray) (hl : l.length ≤ 9223372036854775807) : Ev (fun k => spec_IsSigned.f k l a b) (hasHead l a b) := by
 have main : ∀ (d i : Nat), i + d = l.length → Ev (fun k => spec_IsSigned.l0 k l (i : Int) a b) (hasHead (l.drop i) a b) := by
  intro d
  induction d with
  | zero =>
   intro i hi
   refine Ev.step (f := fun _ => some false) (fun k => ?_) (Ev.one (Ev.now _) ?_)
   ·simp only [spec_IsSigned.l0]
    rw [if_neg (by omega)]
   ·rw [List.drop_of_length_le (by omega)]
    rfl
  | succ d ih =>
   intro i hi
   obtain ⟨x, hx⟩ := get_some (l := l) (i := i) (by omega)
   by_cases h : (x.f0 == a && (x.f1.toList == b.toList)) = true
   ·refine Ev.step (f := fun _ => some true) (fun k => ?_) (Ev.one (Ev.now _) ?_)
    ·simp only [spec_IsSigned.l0]
     rw [if_pos (by omega), if_pos (by omega), rdI hx, if_pos h]
    ·rw [drop_one hx]
     simp only [hasHead, List.any_cons, h, Bool.true_or]
   ·refine Ev.step (fun k => ?_) (Ev.one (ih (i + 1) (by omega)) ?_)
    ·simp only [spec_IsSigned.l0]
     rw [if_pos (by omega), if_pos (by omega), rdI hx, if_neg h, next64 (show i < l.length by omega) hl]
    ·rw [drop_one hx]
     simp only [hasHead, List.any_cons, Bool.eq_false_iff.mpr h, Bool.false_or]
 exact main l.length 0 (by omega)
theorem impl_Index_ev (l : List IHead) (a : Int) (b : ByteArray) (hl : l.length ≤ 9223372036854775807) : ∃ r, Ev (fun k => impl_Head_109.f k l a b) r ∧ decide (r ≥ 0) = hasHead l a b := by
 have main : ∀ (d i : Nat), i + d = l.length → ∃ r, Ev (fun k => impl_Head_109.l0 k l (l.length : Int) (i : Int) a b) r ∧ decide (r ≥ 0) = hasHead (l.drop i) a b := by
  intro d
  induction d with
  | zero =>
   intro i hi
   refine ⟨-1, Ev.step (f := fun _ => some (-1)) (fun k => ?_) (Ev.now _), ?_⟩
   ·simp only [impl_Head_109.l0]
    rw [if_neg (by omega)]
   ·rw [List.drop_of_length_le (by omega)]
    rfl
  | succ d ih =>
   intro i hi
   obtain ⟨x, hx⟩ := get_some (l := l) (i := i) (by omega)
   have hsym : (a == x.f0 && (b.toList == x.f1.toList)) = (x.f0 == a && (x.f1.toList == b.toList)) := by
    rw [Bool.beq_comm (a := a), Bool.beq_comm (a := b.toList)]
   by_cases h : (x.f0 == a && (x.f1.toList == b.toList)) = true
   ·refine ⟨(i : Int), Ev.step (f := fun _ => some (i : Int)) (fun k => ?_) (Ev.now _), ?_⟩
    ·simp only [impl_Head_109.l0]
     rw [if_pos (by omega), if_pos (by omega), if_pos (by omega), rdI hx, hsym, if_pos h]
    ·rw [drop_one hx]
     simp only [hasHead, List.any_cons, h, Bool.true_or]
     exact decide_eq_true (by omega)
   ·obtain ⟨r, h1, h2⟩ := ih (i + 1) (by omega)
    refine ⟨r, Ev.step (fun k => ?_) h1, ?_⟩
    ·simp only [impl_Head_109.l0]
     rw [if_pos (by omega), if_pos (by omega), if_pos (by omega), rdI hx, hsym, if_neg h, next64 (show i < l.length by omega) hl]
    ·rw [h2, drop_one hx]
     simp only [hasHead, List.any_cons, Bool.eq_false_iff.mpr h, Bool.false_or]
 obtain ⟨r, h1, h2⟩ := main l.length 0 (by omega)
 exact ⟨r, h1, h2⟩
theorem impl_IsSigned_ev (l : List IHead) (a : Int) (b : ByteArray) (hl : l.length ≤ 9223372036854775807) : Ev (fun k => impl_IsSigned.f k l a b) (hasHead l a b) := by
 obtain ⟨r, h1, h2⟩ := impl_Index_ev l a b hl
 refine Ev.congr (fun k => by unfold impl_IsSigned.f impl_Head_101.f; rfl) ?_
 refine Ev.bind (Ev.bind h1 (Ev.now _)) ?_
 rw [h2]
 exact Ev.now _
theorem one64 : wrap64 (0 + 1) = 1 := by rw [w64 (by omega) (by omega)]; rfl
theorem two64 : wrap64 (1 + 1) = 2 := by rw [w64 (by omega) (by omega)]; rfl
theorem concat_l1 (a b : List ByteArray) (h : a.length + b.length ≤ 1000000000) : Ev (fun k => slices_Concat_string_string.l1 k [] [a, b] 2 0) (a ++ b) := by
 have ea : rd_L4 [a, b] 0 = a := rfl
 have eb : rd_L4 [a, b] 1 = b := rfl
 refine Ev.step (fun k => by simp only [slices_Concat_string_string.l1]; rfl) ?_
 rw [ea, one64]
 refine Ev.pos (by omega) (Ev.pos (by omega) (Ev.pos (by simp) (Ev.pos (by simp; omega) ?_)))
 refine Ev.step (fun k => by simp only [slices_Concat_string_string.l1]; rfl) ?_
 rw [eb, two64]
 refine Ev.pos (by omega) (Ev.pos (by omega) (Ev.pos (by simp) (Ev.pos (by simp; omega) ?_)))
 refine Ev.step (fun k => by simp only [slices_Concat_string_string.l1]; rfl) ?_
 exact Ev.neg (by omega) (Ev.one (Ev.now _) rfl)
theorem concat_ev (a b : List ByteArray) (h : a.length + b.length ≤ 1000000000) (h1 : 1 ≤ a.length + b.length) : Ev (fun k => slices_Concat_string_string.f k [a, b]) (a ++ b) := by
 have ea : rd_L4 [a, b] 0 = a := rfl
 have eb : rd_L4 [a, b] 1 = b := rfl
 have e2 : (([a, b] : List (List ByteArray)).length : Int) = 2 := rfl
 have hg : slices_Grow_string_string.f [] ((a.length : Int) + (b.length : Int)) = some [] := by
  unfold slices_Grow_string_string.f
  rw [if_pos ⟨rfl, by omega, by omega⟩]
 unfold slices_Concat_string_string.f
 refine Ev.step (fun k => by simp only [slices_Concat_string_string.l0]; rfl) ?_
 rw [ea, e2, w64 (x := 0 + (a.length : Int)) (by omega) (by omega), one64, Int.zero_add]
 refine Ev.pos (by omega) (Ev.pos (by omega) (Ev.pos (by omega) (Ev.neg (by omega) ?_)))
 refine Ev.step (fun k => by simp only [slices_Concat_string_string.l0]; rfl) ?_
 rw [eb, e2, w64 (x := (a.length : Int) + (b.length : Int)) (by omega) (by omega), two64]
 refine Ev.pos (by omega) (Ev.pos (by omega) (Ev.pos (by omega) (Ev.neg (by omega) ?_)))
 refine Ev.step (fun k => by simp only [slices_Concat_string_string.l0]; rfl) ?_
 rw [e2]
 exact Ev.neg (by omega) (Ev.bind (Ev.const hg) (concat_l1 a b h))
theorem impl_copyLog_eq (l : List ByteArray) (n : Int) (s : ByteArray) (hl : l.length < 8796093022208) : impl_copyLog.f l n s = some (l, n, s) := by
 unfold impl_copyLog.f slices_Clone_string_string.f
 rw [if_pos (by omega)]
 rfl
theorem spec_l11Copy_eq (l : List ByteArray) (n : Int) (s : ByteArray) (hl : l.length < 8796093022208) : spec_l11Copy.f l n s = some (l, n, s) := by
 unfold spec_l11Copy.f
 simp only [Option.bind_some, List.length_nil, List.nil_append]
 rw [if_pos (by omega)]
theorem impl_copyStore_eq (l : List ByteArray) (n : Int) (s : ByteArray) (b : List Int) (u : Int) (hl : l.length < 8796093022208) (hb : b.length < 140737488355328) : impl_copyStore.f l n s b u = some (l, n, s, b, u) := by
 unfold impl_copyStore.f slices_Clone_byte_byte.f
 rw [impl_copyLog_eq l n s hl, if_pos (show b.length ≤ 140737488355328 by omega)]
 rfl
theorem spec_l12Copy_eq (l : List ByteArray) (n : Int) (s : ByteArray) (b : List Int) (u : Int) (hl : l.length < 8796093022208) (hb : b.length < 140737488355328) : spec_l12Copy.f l n s b u = some (l, n, s, b, u) := by
 unfold spec_l12Copy.f
 rw [spec_l11Copy_eq l n s hl]
 simp only [Option.bind_some, List.length_nil, List.nil_append]
 rw [if_pos (by omega)]
theorem exb {α β : Type} {f : Nat → Option α} {g : Nat → α → Option β} {a : α} {B : β → Prop} (h : Ev f a) (k : ∃ r, Ev (fun k => g k a) r ∧ B r) : ∃ r, Ev (fun k => (f k).bind (fun x => g k x)) r ∧ B r := by
 obtain ⟨r, e, b⟩ := k
 exact ⟨r, Ev.bind h e, b⟩
theorem exp_ {β : Type} {c : Prop} [Decidable c] {f g : Nat → Option β} {B : β → Prop} (h : c) (k : ∃ r, Ev f r ∧ B r) : ∃ r, Ev (fun k => if c then f k else g k) r ∧ B r := by
 obtain ⟨r, e, b⟩ := k
 exact ⟨r, Ev.pos h e, b⟩
theorem exn_ {β : Type} {c : Prop} [Decidable c] {f g : Nat → Option β} {B : β → Prop} (h : ¬ c) (k : ∃ r, Ev g r ∧ B r) : ∃ r, Ev (fun k => if c then f k else g k) r ∧ B r := by
 obtain ⟨r, e, b⟩ := k
 exact ⟨r, Ev.neg h e, b⟩
theorem nextST {i n : Nat} (h : i < n) (hn : n ≤ 9223372036854775807) : wrap64 ((i : Int) + 1) = ((i + 1 : Nat) : Int) := by
 rw [w64 (by omega) (by omega)]
 omega
theorem laws_same_ev (a b : List ByteArray) (ha : a.length ≤ 9223372036854775807) : Ev (fun k => laws_sameTexts.f k a b) (decide (a = b)) := by
 unfold laws_sameTexts.f
 by_cases hl : a.length = b.length
 ·have main : ∀ (d i : Nat), i + d = a.length → a.take i = b.take i → Ev (fun k => laws_sameTexts.l0 k a b (i : Int)) (decide (a = b)) := by
   intro d
   induction d with
   | zero =>
    intro i hi ht
    rw [List.take_of_length_le (by omega), List.take_of_length_le (by omega)] at ht
    rw [decide_eq_true ht]
    refine Ev.step (fun k => by simp only [laws_sameTexts.l0]; rfl) ?_
    exact Ev.neg (by omega) (Ev.now _)
   | succ d ih =>
    intro i hi ht
    obtain ⟨x, hx⟩ := get_some (l := a) (i := i) (by omega)
    obtain ⟨y, hy⟩ := get_some (l := b) (i := i) (by omega)
    refine Ev.step (fun k => by simp only [laws_sameTexts.l0]; rfl) ?_
    rw [rdOf_at hx, rdOf_at hy, nextST (show i < a.length by omega) ha]
    by_cases h : x.toList = y.toList
    ·have e := bytes_ext h
     subst e
     exact Ev.pos (by omega) (Ev.pos (by omega) (Ev.pos (by omega) (Ev.pos rfl (ih (i + 1) (by omega) (by rw [take_one hx, take_one hy, ht])))))
    ·have hn : ¬ a = b := by
      intro e
      subst e
      rw [hx] at hy
      exact h (by rw [Option.some.inj hy])
     rw [decide_eq_false hn]
     exact Ev.pos (by omega) (Ev.pos (by omega) (Ev.pos (by omega) (Ev.neg h (Ev.now _))))
  exact Ev.pos (by omega) (main a.length 0 (by omega) (by simp))
 ·have hn : ¬ a = b := fun e => hl (by rw [e])
  rw [decide_eq_false hn]
  exact Ev.neg (by omega) (Ev.now _)
theorem begins_ev (a b : List ByteArray) (ha : (a ++ b).length ≤ 9223372036854775807) : Ev (fun k => laws_begins.f k a (a ++ b)) true := by
 rw [List.length_append] at ha
 unfold laws_begins.f
 refine Ev.pos (by rw [List.length_append]; omega) (Ev.pos (by omega) ?_)
 rw [Int.toNat_natCast, List.take_left]
 have := laws_same_ev a a (by omega)
 rw [decide_eq_true rfl] at this
 exact Ev.bind this (Ev.now _)
end Go.Proofs.Ytnlndmoecljicaa.Q
end
section
namespace Go.Proofs.Ytnlndmoecljicaa.Q
open Go.Proofs.YtnlndmoecljicaaW.PrintLast Go.Proofs.YtnlndmoecljicaaW.PrintMore Go.Proofs.YtnlndmoecljicaaW.PrintWords Go.RowKit Go.Shelf
set_option maxHeartbeats 8000000
set_option maxRecDepth 100000
def shaK : List Int := [1116352408, 1899447441, 3049323471, 3921009573, 961987163, 1508970993, 2453635748, 2870763221, 3624381080, 310598401, 607225278, 1426881987, 1925078388, 2162078206, 2614888103, 3248222580, 3835390401, 4022224774, 264347078, 604807628, 770255983, 1249150122, 1555081692, 1996064986, 2554220882, 2821834349, 2952996808, 3210313671, 3336571891, 3584528711, 113926993, 338241895, 666307205, 773529912, 1294757372, 1396182291, 1695183700, 1986661051, 2177026350, 2456956037, 2730485921, 2820302411, 3259730800, 3345764771, 3516065817, 3600352804, 4094571909, 275423344, 430227734, 506948616, 659060556, 883997877, 958139571, 1322822218, 1537002063, 1747873779, 1955562222, 2024104815, 2227730452, 2361852424, 2428436474, 2756734187, 3204031479, 3329325298]
def shaH : List Int := [1779033703, 3144134277, 1013904242, 2773480762, 1359893119, 2600822924, 528734635, 1541459225]
def blockAt (p : List Int) (x : Nat) : List Int := (p.drop x).take 64
def foldAt (p : List Int) (xs : List Nat) : List Int := xs.foldl (fun h x => turned shaK (blockAt p x) h) shaH
theorem foldAt_snoc (p : List Int) (xs : List Nat) (x : Nat) : foldAt p (xs ++ [x]) = turned shaK (blockAt p x) (foldAt p xs) := by simp [foldAt]
theorem turned_length (ks bs hs : List Int) : (turned ks bs hs).length = hs.length := addAt_length _ _ _
theorem foldAt_length (p : List Int) (xs : List Nat) : (foldAt p xs).length = 8 := by
 have main : ∀ (xs : List Nat) (h : List Int), h.length = 8 → (xs.foldl (fun h x => turned shaK (blockAt p x) h) h).length = 8 := by
  intro xs
  induction xs with
  | nil => exact fun h hh => hh
  | cons x xs ih => exact fun h hh => ih _ (by rw [turned_length]; exact hh)
 exact main xs shaH rfl
def wordBytes (x : Int) : List Int := [x / 16777216 % 256, x / 65536 % 256, x / 256 % 256, x % 256]
def outBytes (hs : List Int) (k : Nat) : List Int := (hs.take k).flatMap wordBytes
def shaBytes (l : List Int) : List Int := outBytes (foldAt (padL l) (starts ((padL l).length / 64))) 8
def sha (l : List Int) : ByteArray := strOfNums (shaBytes l)
def impl_Digest.f (l : List Int) : Option (ByteArray) := if l.length ≤ 1099511627776 then some (sha l) else none
set_option maxHeartbeats 2000000 in
theorem rounds_calls (w : World) : Calls Try.prog 105 #[] w fun e w' => ∃ g, e = .returned (.pointer (some ⟨g, 0, none⟩)) ∧ w.heap.size ≤ g ∧ w'.heap[g]? = some (.cells (arrU shaK) 127 (0, 0)) ∧ Below w.heap.size w w' := by
 go_enter Try.func105, Try.ntmps105
 go_wp2
 go_ret
 exact ⟨_, rfl, Nat.le_refl _, blk_new w _, (Below.refl _ _).alloc (Nat.le_refl _) _⟩
theorem sub_reads {w : World} {b n : Nat} {xs : List Int} (h : Kd.C (Kd.int .u8) w (some ⟨b, 0, none⟩) n xs) (x : Nat) (hx : x + 64 ≤ n) : Kd.C (Kd.int .u8) w (some ⟨b, 0 + x, none⟩) (blockAt xs x).length (blockAt xs x) ∧ (blockAt xs x).length = 64 := by
 have hl := h.1
 have h64 : (blockAt xs x).length = 64 := by simp [blockAt]; omega
 obtain ⟨ad, he, hby⟩ := bytes_at h (by omega)
 obtain rfl := (Option.some.inj he).symm
 refine ⟨⟨rfl, by omega, fun _ => ⟨_, rfl, fun j p hj => ⟨[.int .u8 p], rfl, rfl, fun i u hu => ?_⟩⟩⟩, h64⟩
 have hj64 : j < 64 := by rw [← h64]; exact (List.getElem?_eq_some_iff.1 hj).1
 have hi0 : i = 0 := by
  rcases Nat.eq_zero_or_pos i with hz | hz
  ·exact hz
  ·rw [List.getElem?_eq_none (by simp; omega)] at hu
   cases hu
 subst hi0
 have hu2 : u = .int .u8 p := by simpa using hu.symm
 have hp : xs[x + j]? = some p := by
  rw [blockAt, List.getElem?_take, if_pos hj64, List.getElem?_drop] at hj
  exact hj
 have := hby.2 (x + j) (by omega)
 rw [hu2]
 have hrd : rd xs ((x + j : Nat) : Int) = p := by unfold rd; rw [Int.toNat_natCast]; simp [List.getD_eq_getElem?_getD, hp]
 rw [hrd] at this
 have haddr : (⟨b, 0 + x, none⟩ : Addr).add (j * (Kd.int .u8).sz + 0) = (⟨b, 0, none⟩ : Addr).add (x + j) := by
  rw [show (Kd.int .u8).sz = 1 from rfl, Nat.mul_one, Nat.add_zero]
  unfold Addr.add
  by_cases hj0 : j = 0
  ·by_cases hxx : x = 0
   ·simp [hj0, hxx]
   ·simp [hj0, hxx]
  ·simp [hj0]
 rw [haddr]
 exact this
theorem C_at {w W : World} {g n : Nat} {xs : List Int} (h : Kd.C (Kd.int .u8) w (some ⟨g, 0, none⟩) n xs) (hb : W.heap[g]? = w.heap[g]?) : Kd.C (Kd.int .u8) W (some ⟨g, 0, none⟩) n xs := by
 refine ⟨h.1, h.2.1, fun hp => ?_⟩
 obtain ⟨ad, he, f⟩ := h.2.2 hp
 obtain rfl := (Option.some.inj he).symm
 refine ⟨_, he, fun j p hj => ?_⟩
 obtain ⟨cs, h1, h2, h3⟩ := f j p hj
 refine ⟨cs, h1, h2, fun i u hu => ?_⟩
 have h4 := h3 i u hu
 have ha : ((⟨g, 0, none⟩ : Addr).add (j * (Kd.int .u8).sz + i)).block = g := by
  unfold Addr.add
  split <;> rfl
 rw [World.cell?_of_block (w := w) (w' := W) (by rw [ha]; exact hb)]
 exact h4
@[local go_sem] theorem run_index_h0 (v0 v1 v2 v3 v4 v5 v6 v7 : Int) (w : World) : (Instr.index 118 (.agg #[.int .u32 v0, .int .u32 v1, .int .u32 v2, .int .u32 v3, .int .u32 v4, .int .u32 v5, .int .u32 v6, .int .u32 v7]) (.int .i64 0)).run Try.prog w = .ok (.int .u32 v0) w := by
 simp [Instr.index, asIntOf, run_underlying Try.underlying118, go_sem]
@[local go_sem] theorem run_index_h1 (v0 v1 v2 v3 v4 v5 v6 v7 : Int) (w : World) : (Instr.index 118 (.agg #[.int .u32 v0, .int .u32 v1, .int .u32 v2, .int .u32 v3, .int .u32 v4, .int .u32 v5, .int .u32 v6, .int .u32 v7]) (.int .i64 1)).run Try.prog w = .ok (.int .u32 v1) w := by
 simp [Instr.index, asIntOf, run_underlying Try.underlying118, go_sem]
@[local go_sem] theorem run_index_h2 (v0 v1 v2 v3 v4 v5 v6 v7 : Int) (w : World) : (Instr.index 118 (.agg #[.int .u32 v0, .int .u32 v1, .int .u32 v2, .int .u32 v3, .int .u32 v4, .int .u32 v5, .int .u32 v6, .int .u32 v7]) (.int .i64 2)).run Try.prog w = .ok (.int .u32 v2) w := by
 simp [Instr.index, asIntOf, run_underlying Try.underlying118, go_sem]
@[local go_sem] theorem run_index_h3 (v0 v1 v2 v3 v4 v5 v6 v7 : Int) (w : World) : (Instr.index 118 (.agg #[.int .u32 v0, .int .u32 v1, .int .u32 v2, .int .u32 v3, .int .u32 v4, .int .u32 v5, .int .u32 v6, .int .u32 v7]) (.int .i64 3)).run Try.prog w = .ok (.int .u32 v3) w := by
 simp [Instr.index, asIntOf, run_underlying Try.underlying118, go_sem]
@[local go_sem] theorem run_index_h4 (v0 v1 v2 v3 v4 v5 v6 v7 : Int) (w : World) : (Instr.index 118 (.agg #[.int .u32 v0, .int .u32 v1, .int .u32 v2, .int .u32 v3, .int .u32 v4, .int .u32 v5, .int .u32 v6, .int .u32 v7]) (.int .i64 4)).run Try.prog w = .ok (.int .u32 v4) w := by
 simp [Instr.index, asIntOf, run_underlying Try.underlying118, go_sem]
@[local go_sem] theorem run_index_h5 (v0 v1 v2 v3 v4 v5 v6 v7 : Int) (w : World) : (Instr.index 118 (.agg #[.int .u32 v0, .int .u32 v1, .int .u32 v2, .int .u32 v3, .int .u32 v4, .int .u32 v5, .int .u32 v6, .int .u32 v7]) (.int .i64 5)).run Try.prog w = .ok (.int .u32 v5) w := by
 simp [Instr.index, asIntOf, run_underlying Try.underlying118, go_sem]
@[local go_sem] theorem run_index_h6 (v0 v1 v2 v3 v4 v5 v6 v7 : Int) (w : World) : (Instr.index 118 (.agg #[.int .u32 v0, .int .u32 v1, .int .u32 v2, .int .u32 v3, .int .u32 v4, .int .u32 v5, .int .u32 v6, .int .u32 v7]) (.int .i64 6)).run Try.prog w = .ok (.int .u32 v6) w := by
 simp [Instr.index, asIntOf, run_underlying Try.underlying118, go_sem]
@[local go_sem] theorem run_index_h7 (v0 v1 v2 v3 v4 v5 v6 v7 : Int) (w : World) : (Instr.index 118 (.agg #[.int .u32 v0, .int .u32 v1, .int .u32 v2, .int .u32 v3, .int .u32 v4, .int .u32 v5, .int .u32 v6, .int .u32 v7]) (.int .i64 7)).run Try.prog w = .ok (.int .u32 v7) w := by
 simp [Instr.index, asIntOf, run_underlying Try.underlying118, go_sem]
theorem xd_blk {A B : World} {row : Option Nat} {b n : Nat} {cs : Array Value} {T : TypeId} (h : A.heap[n]? = some (.cells cs T (0, 0))) (hg : A.grownBy B row) (hr : ∀ r, row = some r → b ≤ r ∧ ∃ o : Obj, A.heap[r]? = some o ∧ o.isCells = false) : B.heap[n]? = some (.cells cs T (0, 0)) := by
 rw [hg.block n (blk_lt h) (fun e => ?_)]
 ·exact h
 ·obtain ⟨_, o, ho, hc⟩ := hr n e.symm
  rw [h] at ho
  cases ho
  cases hc
theorem turn64 {g : Nat} (gh gk x : Nat) (p hs : List Int) (w : World) (hC : Kd.C (Kd.int .u8) w (some ⟨g, 0, none⟩) p.length p) (hx : x + 64 ≤ p.length) (hh : hs.length = 8)
  (hgh : w.heap[gh]? = some (.cells (arrU hs) 118 (0, 0))) (hgk : w.heap[gk]? = some (.cells (arrU shaK) 127 (0, 0))) :
  Calls Try.prog 108 #[.pointer (some ⟨gh, 0, none⟩), .slice (some ⟨g, x, none⟩) 64 64, .pointer (some ⟨gk, 0, none⟩)] w fun e w' => e = .returned (.tuple #[]) ∧ w.grownBy w' (some gh) ∧ w'.heap[gh]? = some (.cells (arrU (turned shaK (blockAt p x) hs)) 118 (0, 0)) := by
 obtain ⟨h1, h2⟩ := sub_reads hC x hx
 have := turnBlock_calls gh gk (some ⟨g, 0 + x, none⟩) 64 (blockAt p x) hs shaK w h1 h2 hh rfl hgh hgk
 rw [h2, Nat.zero_add] at this
 exact this
set_option maxHeartbeats 4000000 in
theorem impl_Digest.calls (A0 : Option Addr) (c0 : Nat) (l0 : List Int) (r : ByteArray) (w : World) (hr0 : Kd.C (Kd.int .u8) w A0 l0.length l0) (hc0 : l0.length ≤ c0) (h : impl_Digest.f l0 = some r) :
  Calls Try.prog 97 #[.slice A0 l0.length c0] w fun e w' => e = .returned (.string r) ∧ Below w.heap.size w w' := by
 unfold impl_Digest.f at h
 by_cases hl : l0.length ≤ 1099511627776
 ·rw [if_pos hl] at h
  obtain rfl := Option.some.inj h
  clear h
  obtain ⟨kp, hkp⟩ := Ev.rounds (impl_Padded_ev l0 hl)
  have HP := am_ hkp
  have HR := am_ hr0
  have HC := am_ hc0
  have HLL := am_ hl
  clear hkp hr0 hc0 hl
  refine (callsIn_wide (n := 3)).1 ?_
  refine callsIn_of_wp_marks Try.func97 rfl trivial ?_ rfl
  refine wpIn_wide.2 ?_
  simp only [Try.ntmps97, List.size_toArray, List.length_cons, List.length_nil, Nat.reduceAdd, Nat.reduceSub, Array.replicate_succ, Array.replicate_zero, List.push_toArray, List.append_toArray, List.nil_append, List.cons_append]
  go_wp2_with (go_at_call 105; (with_reducible refine (rounds_calls _).mono ?_); rintro e w1 ⟨gk, rfl, hk1, hk2, hb1⟩; have HK1 := am_ hk1; have HK2 := am_ hk2; have HB1 := am_ hb1; clear hk1 hk2 hb1)
  have HH1 := am_ (blk_below (blk_new w _) HB1.out)
  have HB2 := am_ (show Below w.heap.size w (w1.alloc (.cells #[.pointer (some ⟨gk, 0, none⟩)] 119)) from ((((Below.refl _ _).alloc (Nat.le_refl _) _).trans (HB1.out.mono (by simp))).alloc (by have := HB1.out.size; simp at this; omega) _))
  have HH2 := am_ (blk_alloc HH1.out (.cells #[.pointer (some ⟨gk, 0, none⟩)] 119))
  have HK3 := am_ (blk_alloc HK2.out (.cells #[.pointer (some ⟨gk, 0, none⟩)] 119))
  have HP2 := am_ (blk_new w1 (.cells #[.pointer (some ⟨gk, 0, none⟩)] 119))
  obtain ⟨gh, hgh⟩ : ∃ gh, w.heap.size = gh := ⟨_, rfl⟩
  obtain ⟨gb, hgb⟩ : ∃ gb, w1.heap.size = gb := ⟨_, rfl⟩
  have HGH := am_ hgh
  rw [hgh] at HH2
  rw [hgb] at HP2
  simp only [hgh, hgb]
  clear hgh hgb HH1 HK2 HK1
  generalize w1.alloc (.cells #[.pointer (some ⟨gk, 0, none⟩)] 119) = w2 at HB2 HH2 HK3 HP2 ⊢
  with_reducible refine (impl_Padded.calls kp _ _ l0 (padL l0) _ (Kd.C_below HR.out HB2.out) HC.out HP.out).mono ?_
  rintro e w3 ⟨vp, rfl, ho, hb3⟩
  have hplen := padL_length l0
  have hpsz := padL_size l0
  have hpp : 0 < (padL l0).length := by simp [padL]; omega
  obtain ⟨g, cap, rfl, hg1, hg2, cs0, hcs0⟩ := Kd.R_form ho hpp
  obtain ⟨_, hcap, hC⟩ := Kd.R_reads' ho
  have HO := am_ hC
  have HCS := am_ hcs0
  have HB3 := am_ (HB2.out.trans (hb3.mono HB2.out.size))
  have HH3 := am_ (blk_below HH2.out hb3)
  have HK4 := am_ (blk_below HK3.out hb3)
  have HP3 := am_ (blk_below HP2.out hb3)
  have HSZ := am_ hb3.size
  have HG := am_ (And.intro hg1 hg2)
  have HN := am_ (And.intro hplen (And.intro hpsz hcap))
  clear ho hb3 hg1 hg2 hcs0 hC hcap hplen hpsz hpp
  clear HB2 HH2 HK3 HP2
  go_wp2_with (go_at_call 106; (refine (callsIn_wide.1 (chunk_in Fence.wide 1 trivial rfl _ _ _ _)).mono ?_); rintro e w4 ⟨rfl, rfl⟩)
  rename_i hKz _
  have HKz := am_ hKz
  clear hKz
  obtain ⟨w4, hw4⟩ : ∃ w4, (w3.alloc (.cells #[.slice (some ⟨g, 0, none⟩) (padL l0).length cap] 22)).alloc (.cells #[.int .i64 64] 3) = w4 := ⟨_, rfl⟩
  have hb4 : Below w3.heap.size w3 w4 := by rw [← hw4]; exact ((Below.refl _ _).alloc (Nat.le_refl _) _).alloc (by simp) _
  have hsz4 : w4.heap.size = w3.heap.size + 2 := by rw [← hw4]; simp
  have HBs : w4.cell? ⟨w3.heap.size, 0, none⟩ = some (.slice (some ⟨g, 0, none⟩) (padL l0).length cap) := by
   rw [← hw4]
   simp
  have HBn : w4.cell? ⟨w3.heap.size + 1, 0, none⟩ = some (.int .i64 64) := by
   rw [← hw4]
   simp
  have hC4 := Kd.C_below HO.out hb4
  have hcs4 := blk_below HCS.out hb4
  have hgh4 := blk_below HH3.out hb4
  have hgk4 := blk_below HK4.out hb4
  have hgb4 := blk_below HP3.out hb4
  have hB4 : Below w.heap.size w w4 := HB3.out.trans (hb4.mono HB3.out.size)
  rw [hw4]
  clear hw4
  have hN := HN.out
  have hm : (padL l0).length = 64 * ((padL l0).length / 64) := by omega
  refine (wpIn_wide (n := 3)).1 ?_
  refine wpIn_rangeFunc_ownF rfl (by omega) (gf := 110) (lb := #[.pointer (some ⟨w3.heap.size, 0, none⟩), .pointer (some ⟨w3.heap.size + 1, 0, none⟩)]) rfl trivial (enters_of Try.func110 (by kernel_rfl) rfl)
   (chunk_stops Fence.wide _ trivial rfl (by omega) w3.heap.size (w3.heap.size + 1) w4.heap.size gh g 0 cap ((padL l0).length / 64) (padL l0).length hm hN.2.2 (by have := HLL.out; omega) (by have := blk_lt hcs4; omega) (by omega) (by omega) (by have := blk_lt HH3.out; omega) (by have := blk_lt HH3.out; omega) w4 (Nat.le_refl _) HBs HBn)
   BelowBut.trans (BelowBut.putObj (Nat.le_refl _)) (Below.refl _ _) (fun _ => rfl)
   (fun pre W => (Aside0 (W.heap[gh]? = some (.cells (arrU (foldAt (padL l0) (pre.map (·.1)))) 118 (0, 0))) ∧ Aside0 (W.heap[gk]? = some (.cells (arrU shaK) 127 (0, 0))) ∧ Aside0 (W.heap[gb]? = some (.cells #[.pointer (some ⟨gk, 0, none⟩)] 119 (0, 0))) ∧ Aside0 (W.heap[g]? = some (.cells cs0 5 (0, 0))) ∧ Aside0 (w4.heap.size ≤ W.heap.size)) ∧ Below w.heap.size w W)
   (fun _ _ _ => False)
   ?own (fun c => ?ownx) ?h0
   (fun x => { tmps := #[Value.slice A0 l0.length c0, undef, .string ⟨#[]⟩, .pointer (some ⟨gh, 0, none⟩), .pointer (some ⟨gb, 0, none⟩), Value.slice (some ⟨g, x.1, none⟩) 64 64, undef, undef, undef, .agg #[.int .u32 1779033703, .int .u32 3144134277, .int .u32 1013904242, .int .u32 2773480762, .int .u32 1359893119, .int .u32 2600822924, .int .u32 528734635, .int .u32 1541459225], .pointer (some ⟨gk, 0, none⟩), .slice A0 l0.length c0, .slice (some ⟨g, 0, none⟩) (padL l0).length cap, .func (.func 110) #[] #[.pointer (some ⟨w3.heap.size, 0, none⟩), .pointer (some ⟨w3.heap.size + 1, 0, none⟩)], Value.slice (some ⟨g, x.1, none⟩) 64 64, undef, undef, undef, undef, undef, undef, undef, undef, undef, undef, undef, undef, undef, undef, undef, undef, undef, undef, undef, undef, undef, undef, undef, undef], defers := [] }) ?assign ?body ?done ?stop
  case assign =>
   intro l x W K hK
   clear hm hN
   gi_wp2_with (rw [Oper.semAt_eq _ _ _ (fun c h => by cases h)]; go_simp; try go_bits)
   exact hK
  case body =>
   rintro l pre x W ⟨⟨hh, hk, hb, hc, hs⟩, hB⟩ _
   clear hm hN
   have cb : W.cell? ⟨gb, 0, none⟩ = some (.pointer (some ⟨gk, 0, none⟩)) := blk_cell hb.out 0
   have hcx : Kd.C (Kd.int .u8) W (some ⟨g, 0, none⟩) (padL l0).length (padL l0) := C_at hC4 (hc.out.trans hcs4.symm)
   have HCX := am_ hcx
   clear hcx hC4
   gi_wp2_with (rw [Oper.semAt_eq _ _ _ (fun c h => by cases h)]; go_simp; try go_bits)
   refine ⟨trivial, ?_⟩
   have HT := turn64 (g := g) gh gk x.1 (padL l0) (foldAt (padL l0) (pre.map (·.1))) W HCX.out x.2 (foldAt_length _ _) hh.out hk.out
   refine CallsIn.mono (CallsIn.inRound l (callsIn_wide.2 HT)) ?_
   rintro e W' ⟨rfl, hg', hn'⟩
   gi_wp2
   have hb0 : BelowBut w4.heap.size gh W W' := BelowBut.grown hg' hs.out
   have hsz := hs.out
   have hl1 := blk_lt hgk4
   have hl2 := blk_lt hgb4
   have hl3 := blk_lt hcs4
   have n1 : gk ≠ gh := blk_ne hk.out hh.out (by decide)
   have n2 : gb ≠ gh := blk_ne hb.out hh.out (by decide)
   have n3 : g ≠ gh := blk_ne hc.out hh.out (by decide)
   refine ⟨KeepsOthers.of_grownBy hg' (fun j o hj ho => by cases hj; rw [hh.out] at ho; cases ho; rfl), hb0, ⟨⟨?_⟩, ⟨?_⟩, ⟨?_⟩, ⟨?_⟩, ⟨?_⟩⟩, ?_⟩
   ·rw [List.map_append, List.map_cons, List.map_nil, foldAt_snoc]
    exact hn'
   ·exact (hb0.block gk hl1 n1).trans hk.out
   ·exact (hb0.block gb hl2 n2).trans hb.out
   ·exact (hb0.block g hl3 n3).trans hc.out
   ·exact Nat.le_trans hsz hb0.size
   ·exact hB.grown hg' (Nat.le_trans hB4.size hsz) (fun k e => by cases e; have := HGH.out; omega)
  case own =>
   refine OwnFrom.and (fun s A B row hs hg hr => ⟨⟨xd_blk hs.1.out hg hr⟩, ⟨xd_blk hs.2.1.out hg hr⟩, ⟨xd_blk hs.2.2.1.out hg hr⟩, ⟨xd_blk hs.2.2.2.1.out hg hr⟩, ⟨Nat.le_trans hs.2.2.2.2.out hg.size⟩⟩) (ownFrom_below (Nat.le_refl _) hB4.size)
  case ownx => exact fun s A B row hs hg hr => hs
  case h0 => exact ⟨⟨⟨hgh4⟩, ⟨hgk4⟩, ⟨hgb4⟩, ⟨hcs4⟩, ⟨Nat.le_refl _⟩⟩, hB4⟩
  case stop => exact fun D c pre W _ _ hx => hx.elim
  case done =>
   rintro D xs W hD hS ⟨⟨hh, _, _, _, hs⟩, hB⟩ hK
   clear hm hN hC4 hcs4 hgh4 hgk4 hgb4 hB4 HBs HBn
   refine HKz.out _ _ ?_
   clear HKz
   obtain ⟨v0, v1, v2, v3, v4, v5, v6, v7, hv⟩ := eight (foldAt_length (padL l0) (starts ((padL l0).length / 64)))
   rw [hS, hv] at hh
   have c0 : W.cell? ⟨gh, 0, none⟩ = some (.int .u32 v0) := blk_cell hh.out 0
   have c1 : W.cell? ⟨gh, 1, none⟩ = some (.int .u32 v1) := blk_cell hh.out 1
   have c2 : W.cell? ⟨gh, 2, none⟩ = some (.int .u32 v2) := blk_cell hh.out 2
   have c3 : W.cell? ⟨gh, 3, none⟩ = some (.int .u32 v3) := blk_cell hh.out 3
   have c4 : W.cell? ⟨gh, 4, none⟩ = some (.int .u32 v4) := blk_cell hh.out 4
   have c5 : W.cell? ⟨gh, 5, none⟩ = some (.int .u32 v5) := blk_cell hh.out 5
   have c6 : W.cell? ⟨gh, 6, none⟩ = some (.int .u32 v6) := blk_cell hh.out 6
   have c7 : W.cell? ⟨gh, 7, none⟩ = some (.int .u32 v7) := blk_cell hh.out 7
   have HV := am_ hv
   have HD := am_ hD
   have HKD := am_ hK
   have HBB := am_ hB
   have HS4 := am_ hsz4
   clear hv hD hK hB hS hsz4 hb4
   go_wp2
   have HL := am_ (And.intro hh.out hs.out)
   clear c0 c1 c2 c3 c4 c5 c6 c7 hh hs
   obtain ⟨W0, hW0⟩ : ∃ W0 : World, W = W0 := ⟨_, rfl⟩
   go_loopw [6, 19] (fun x6 x19 W' => ∃ k : Nat, k ≤ 8 ∧ x19 = .int .i64 k ∧ Aside0 (Kd.R (Kd.int .u8) 5 W' W.heap.size (fun _ => True) x6 (outBytes [v0, v1, v2, v3, v4, v5, v6, v7] k)) ∧ Aside0 (Below W.heap.size W W')) (fun _ x19 _ => 8 - (intOf x19).toNat)
   case atStart => exact ⟨0, by omega, rfl, ⟨Kd.R_nil _ _ _ _ _⟩, ⟨Below.refl _ _⟩⟩
   case round =>
    obtain ⟨k, hk, rfl, HR1, HB1⟩ := hrel
    by_cases hlt : k < 8
    ·have hk8 : k = 0 ∨ k = 1 ∨ k = 2 ∨ k = 3 ∨ k = 4 ∨ k = 5 ∨ k = 6 ∨ k = 7 := by omega
     clear hk hlt
     rcases hk8 with rfl | rfl | rfl | rfl | rfl | rfl | rfl | rfl
     ·go_wp2_with (first
       | ((with_reducible refine gate_dst (N := 34) rfl ?_); refine Kd.R_lit (Kd.int .u8) _ 5 ?hg (N := 34) ?hd (xs := wordBytes v0) (inner := [.int .u8 (v0 / 16777216 % 256), .int .u8 (v0 / 65536 % 256), .int .u8 (v0 / 256 % 256), .int .u8 (v0 % 256)]) (ok := fun _ => True) (okp := fun _ => True) ?hr ?hp (fun _ hk => hk) trivial (Below.refl _ _) (Nat.le_refl _) (by simp [wordBytes]) ?_; (case hd => rfl); (case hg => rfl); (case hr => first | (go_simp; done) | (go_simp; rfl)); (case hp => exact Reps.one (show Kd.M (Kd.int .u8) _ _ _ (v0 / 16777216 % 256) [.int .u8 (v0 / 16777216 % 256)] from rfl) (Reps.one (show Kd.M (Kd.int .u8) _ _ _ (v0 / 65536 % 256) [.int .u8 (v0 / 65536 % 256)] from rfl) (Reps.one (show Kd.M (Kd.int .u8) _ _ _ (v0 / 256 % 256) [.int .u8 (v0 / 256 % 256)] from rfl) (Reps.one (show Kd.M (Kd.int .u8) _ _ _ (v0 % 256) [.int .u8 (v0 % 256)] from rfl) (Reps.none _ _))))); intro vl wl ho hb hg_ hn_; clear hg_ hn_; have n0 := am_ (Kd.R_elder' HR1.out (Kd.R_base ho) hb); have n1 := am_ (Kd.R_lower (Kd.R_new' ho (Kd.R_lt HR1.out)) (below_size HB1.out)); have n2 := am_ (below_step HB1.out hb); clear HR1 HB1 ho hb; have HR1 := n0; have HO1 := n1; have HB1 := n2; clear n0 n1 n2; obtain ⟨Ao, co, eo⟩ := Kd.R_slice HO1.out; subst eo)
       | ((with_reducible refine gate_builtin (b := .append) (xs := #[.tmp 22, .tmp 34]) rfl ?_); at_builtin; refine Kd.R_append_rows (Kd.int .u8) (w0 := W) W.heap.size rfl (.tmp 22) (.tmp 34) 22 5 (.int .u8 0) 1 rfl Try.underlying22 info5 rfl (by decide) (by omega) u6 (outBytes [v0, v1, v2, v3, v4, v5, v6, v7] 0) (wordBytes v0) _ _ _ (fun k_ => some k_ ≠ (.slice Ao (wordBytes v0).length co : Value).ownBlock) (fun _ => False) rfl rfl (Kd.R_mono HR1.out (fun _ hk => hk.2)) (Kd.R_reads' HO1.out).2.2 (fun _ _ h => h) (fun _ h => h.elim) (fun k_ hk => Kd.fresh' (Kd.R_lt HO1.out) k_ hk) HB1.out (below_size HB1.out) (by simp [outBytes, wordBytes]) ?_; intro va wa ho hb hg_ hn_; clear hg_ hn_))
      go_roundw
      case rel => exact ⟨1, by omega, by go_num, ⟨Kd.R_mono ho (fun _ _ => trivial)⟩, ⟨hb⟩⟩
      case measure => simp [intOf]
     ·go_wp2_with (first
       | ((with_reducible refine gate_dst (N := 34) rfl ?_); refine Kd.R_lit (Kd.int .u8) _ 5 ?hg (N := 34) ?hd (xs := wordBytes v1) (inner := [.int .u8 (v1 / 16777216 % 256), .int .u8 (v1 / 65536 % 256), .int .u8 (v1 / 256 % 256), .int .u8 (v1 % 256)]) (ok := fun _ => True) (okp := fun _ => True) ?hr ?hp (fun _ hk => hk) trivial (Below.refl _ _) (Nat.le_refl _) (by simp [wordBytes]) ?_; (case hd => rfl); (case hg => rfl); (case hr => first | (go_simp; done) | (go_simp; rfl)); (case hp => exact Reps.one (show Kd.M (Kd.int .u8) _ _ _ (v1 / 16777216 % 256) [.int .u8 (v1 / 16777216 % 256)] from rfl) (Reps.one (show Kd.M (Kd.int .u8) _ _ _ (v1 / 65536 % 256) [.int .u8 (v1 / 65536 % 256)] from rfl) (Reps.one (show Kd.M (Kd.int .u8) _ _ _ (v1 / 256 % 256) [.int .u8 (v1 / 256 % 256)] from rfl) (Reps.one (show Kd.M (Kd.int .u8) _ _ _ (v1 % 256) [.int .u8 (v1 % 256)] from rfl) (Reps.none _ _))))); intro vl wl ho hb hg_ hn_; clear hg_ hn_; have n0 := am_ (Kd.R_elder' HR1.out (Kd.R_base ho) hb); have n1 := am_ (Kd.R_lower (Kd.R_new' ho (Kd.R_lt HR1.out)) (below_size HB1.out)); have n2 := am_ (below_step HB1.out hb); clear HR1 HB1 ho hb; have HR1 := n0; have HO1 := n1; have HB1 := n2; clear n0 n1 n2; obtain ⟨Ao, co, eo⟩ := Kd.R_slice HO1.out; subst eo)
       | ((with_reducible refine gate_builtin (b := .append) (xs := #[.tmp 22, .tmp 34]) rfl ?_); at_builtin; refine Kd.R_append_rows (Kd.int .u8) (w0 := W) W.heap.size rfl (.tmp 22) (.tmp 34) 22 5 (.int .u8 0) 1 rfl Try.underlying22 info5 rfl (by decide) (by omega) u6 (outBytes [v0, v1, v2, v3, v4, v5, v6, v7] 1) (wordBytes v1) _ _ _ (fun k_ => some k_ ≠ (.slice Ao (wordBytes v1).length co : Value).ownBlock) (fun _ => False) rfl rfl (Kd.R_mono HR1.out (fun _ hk => hk.2)) (Kd.R_reads' HO1.out).2.2 (fun _ _ h => h) (fun _ h => h.elim) (fun k_ hk => Kd.fresh' (Kd.R_lt HO1.out) k_ hk) HB1.out (below_size HB1.out) (by simp [outBytes, wordBytes]) ?_; intro va wa ho hb hg_ hn_; clear hg_ hn_))
      go_roundw
      case rel => exact ⟨2, by omega, by go_num, ⟨Kd.R_mono ho (fun _ _ => trivial)⟩, ⟨hb⟩⟩
      case measure => simp [intOf]
     ·go_wp2_with (first
       | ((with_reducible refine gate_dst (N := 34) rfl ?_); refine Kd.R_lit (Kd.int .u8) _ 5 ?hg (N := 34) ?hd (xs := wordBytes v2) (inner := [.int .u8 (v2 / 16777216 % 256), .int .u8 (v2 / 65536 % 256), .int .u8 (v2 / 256 % 256), .int .u8 (v2 % 256)]) (ok := fun _ => True) (okp := fun _ => True) ?hr ?hp (fun _ hk => hk) trivial (Below.refl _ _) (Nat.le_refl _) (by simp [wordBytes]) ?_; (case hd => rfl); (case hg => rfl); (case hr => first | (go_simp; done) | (go_simp; rfl)); (case hp => exact Reps.one (show Kd.M (Kd.int .u8) _ _ _ (v2 / 16777216 % 256) [.int .u8 (v2 / 16777216 % 256)] from rfl) (Reps.one (show Kd.M (Kd.int .u8) _ _ _ (v2 / 65536 % 256) [.int .u8 (v2 / 65536 % 256)] from rfl) (Reps.one (show Kd.M (Kd.int .u8) _ _ _ (v2 / 256 % 256) [.int .u8 (v2 / 256 % 256)] from rfl) (Reps.one (show Kd.M (Kd.int .u8) _ _ _ (v2 % 256) [.int .u8 (v2 % 256)] from rfl) (Reps.none _ _))))); intro vl wl ho hb hg_ hn_; clear hg_ hn_; have n0 := am_ (Kd.R_elder' HR1.out (Kd.R_base ho) hb); have n1 := am_ (Kd.R_lower (Kd.R_new' ho (Kd.R_lt HR1.out)) (below_size HB1.out)); have n2 := am_ (below_step HB1.out hb); clear HR1 HB1 ho hb; have HR1 := n0; have HO1 := n1; have HB1 := n2; clear n0 n1 n2; obtain ⟨Ao, co, eo⟩ := Kd.R_slice HO1.out; subst eo)
       | ((with_reducible refine gate_builtin (b := .append) (xs := #[.tmp 22, .tmp 34]) rfl ?_); at_builtin; refine Kd.R_append_rows (Kd.int .u8) (w0 := W) W.heap.size rfl (.tmp 22) (.tmp 34) 22 5 (.int .u8 0) 1 rfl Try.underlying22 info5 rfl (by decide) (by omega) u6 (outBytes [v0, v1, v2, v3, v4, v5, v6, v7] 2) (wordBytes v2) _ _ _ (fun k_ => some k_ ≠ (.slice Ao (wordBytes v2).length co : Value).ownBlock) (fun _ => False) rfl rfl (Kd.R_mono HR1.out (fun _ hk => hk.2)) (Kd.R_reads' HO1.out).2.2 (fun _ _ h => h) (fun _ h => h.elim) (fun k_ hk => Kd.fresh' (Kd.R_lt HO1.out) k_ hk) HB1.out (below_size HB1.out) (by simp [outBytes, wordBytes]) ?_; intro va wa ho hb hg_ hn_; clear hg_ hn_))
      go_roundw
      case rel => exact ⟨3, by omega, by go_num, ⟨Kd.R_mono ho (fun _ _ => trivial)⟩, ⟨hb⟩⟩
      case measure => simp [intOf]
     ·go_wp2_with (first
       | ((with_reducible refine gate_dst (N := 34) rfl ?_); refine Kd.R_lit (Kd.int .u8) _ 5 ?hg (N := 34) ?hd (xs := wordBytes v3) (inner := [.int .u8 (v3 / 16777216 % 256), .int .u8 (v3 / 65536 % 256), .int .u8 (v3 / 256 % 256), .int .u8 (v3 % 256)]) (ok := fun _ => True) (okp := fun _ => True) ?hr ?hp (fun _ hk => hk) trivial (Below.refl _ _) (Nat.le_refl _) (by simp [wordBytes]) ?_; (case hd => rfl); (case hg => rfl); (case hr => first | (go_simp; done) | (go_simp; rfl)); (case hp => exact Reps.one (show Kd.M (Kd.int .u8) _ _ _ (v3 / 16777216 % 256) [.int .u8 (v3 / 16777216 % 256)] from rfl) (Reps.one (show Kd.M (Kd.int .u8) _ _ _ (v3 / 65536 % 256) [.int .u8 (v3 / 65536 % 256)] from rfl) (Reps.one (show Kd.M (Kd.int .u8) _ _ _ (v3 / 256 % 256) [.int .u8 (v3 / 256 % 256)] from rfl) (Reps.one (show Kd.M (Kd.int .u8) _ _ _ (v3 % 256) [.int .u8 (v3 % 256)] from rfl) (Reps.none _ _))))); intro vl wl ho hb hg_ hn_; clear hg_ hn_; have n0 := am_ (Kd.R_elder' HR1.out (Kd.R_base ho) hb); have n1 := am_ (Kd.R_lower (Kd.R_new' ho (Kd.R_lt HR1.out)) (below_size HB1.out)); have n2 := am_ (below_step HB1.out hb); clear HR1 HB1 ho hb; have HR1 := n0; have HO1 := n1; have HB1 := n2; clear n0 n1 n2; obtain ⟨Ao, co, eo⟩ := Kd.R_slice HO1.out; subst eo)
       | ((with_reducible refine gate_builtin (b := .append) (xs := #[.tmp 22, .tmp 34]) rfl ?_); at_builtin; refine Kd.R_append_rows (Kd.int .u8) (w0 := W) W.heap.size rfl (.tmp 22) (.tmp 34) 22 5 (.int .u8 0) 1 rfl Try.underlying22 info5 rfl (by decide) (by omega) u6 (outBytes [v0, v1, v2, v3, v4, v5, v6, v7] 3) (wordBytes v3) _ _ _ (fun k_ => some k_ ≠ (.slice Ao (wordBytes v3).length co : Value).ownBlock) (fun _ => False) rfl rfl (Kd.R_mono HR1.out (fun _ hk => hk.2)) (Kd.R_reads' HO1.out).2.2 (fun _ _ h => h) (fun _ h => h.elim) (fun k_ hk => Kd.fresh' (Kd.R_lt HO1.out) k_ hk) HB1.out (below_size HB1.out) (by simp [outBytes, wordBytes]) ?_; intro va wa ho hb hg_ hn_; clear hg_ hn_))
      go_roundw
      case rel => exact ⟨4, by omega, by go_num, ⟨Kd.R_mono ho (fun _ _ => trivial)⟩, ⟨hb⟩⟩
      case measure => simp [intOf]
     ·go_wp2_with (first
       | ((with_reducible refine gate_dst (N := 34) rfl ?_); refine Kd.R_lit (Kd.int .u8) _ 5 ?hg (N := 34) ?hd (xs := wordBytes v4) (inner := [.int .u8 (v4 / 16777216 % 256), .int .u8 (v4 / 65536 % 256), .int .u8 (v4 / 256 % 256), .int .u8 (v4 % 256)]) (ok := fun _ => True) (okp := fun _ => True) ?hr ?hp (fun _ hk => hk) trivial (Below.refl _ _) (Nat.le_refl _) (by simp [wordBytes]) ?_; (case hd => rfl); (case hg => rfl); (case hr => first | (go_simp; done) | (go_simp; rfl)); (case hp => exact Reps.one (show Kd.M (Kd.int .u8) _ _ _ (v4 / 16777216 % 256) [.int .u8 (v4 / 16777216 % 256)] from rfl) (Reps.one (show Kd.M (Kd.int .u8) _ _ _ (v4 / 65536 % 256) [.int .u8 (v4 / 65536 % 256)] from rfl) (Reps.one (show Kd.M (Kd.int .u8) _ _ _ (v4 / 256 % 256) [.int .u8 (v4 / 256 % 256)] from rfl) (Reps.one (show Kd.M (Kd.int .u8) _ _ _ (v4 % 256) [.int .u8 (v4 % 256)] from rfl) (Reps.none _ _))))); intro vl wl ho hb hg_ hn_; clear hg_ hn_; have n0 := am_ (Kd.R_elder' HR1.out (Kd.R_base ho) hb); have n1 := am_ (Kd.R_lower (Kd.R_new' ho (Kd.R_lt HR1.out)) (below_size HB1.out)); have n2 := am_ (below_step HB1.out hb); clear HR1 HB1 ho hb; have HR1 := n0; have HO1 := n1; have HB1 := n2; clear n0 n1 n2; obtain ⟨Ao, co, eo⟩ := Kd.R_slice HO1.out; subst eo)
       | ((with_reducible refine gate_builtin (b := .append) (xs := #[.tmp 22, .tmp 34]) rfl ?_); at_builtin; refine Kd.R_append_rows (Kd.int .u8) (w0 := W) W.heap.size rfl (.tmp 22) (.tmp 34) 22 5 (.int .u8 0) 1 rfl Try.underlying22 info5 rfl (by decide) (by omega) u6 (outBytes [v0, v1, v2, v3, v4, v5, v6, v7] 4) (wordBytes v4) _ _ _ (fun k_ => some k_ ≠ (.slice Ao (wordBytes v4).length co : Value).ownBlock) (fun _ => False) rfl rfl (Kd.R_mono HR1.out (fun _ hk => hk.2)) (Kd.R_reads' HO1.out).2.2 (fun _ _ h => h) (fun _ h => h.elim) (fun k_ hk => Kd.fresh' (Kd.R_lt HO1.out) k_ hk) HB1.out (below_size HB1.out) (by simp [outBytes, wordBytes]) ?_; intro va wa ho hb hg_ hn_; clear hg_ hn_))
      go_roundw
      case rel => exact ⟨5, by omega, by go_num, ⟨Kd.R_mono ho (fun _ _ => trivial)⟩, ⟨hb⟩⟩
      case measure => simp [intOf]
     ·go_wp2_with (first
       | ((with_reducible refine gate_dst (N := 34) rfl ?_); refine Kd.R_lit (Kd.int .u8) _ 5 ?hg (N := 34) ?hd (xs := wordBytes v5) (inner := [.int .u8 (v5 / 16777216 % 256), .int .u8 (v5 / 65536 % 256), .int .u8 (v5 / 256 % 256), .int .u8 (v5 % 256)]) (ok := fun _ => True) (okp := fun _ => True) ?hr ?hp (fun _ hk => hk) trivial (Below.refl _ _) (Nat.le_refl _) (by simp [wordBytes]) ?_; (case hd => rfl); (case hg => rfl); (case hr => first | (go_simp; done) | (go_simp; rfl)); (case hp => exact Reps.one (show Kd.M (Kd.int .u8) _ _ _ (v5 / 16777216 % 256) [.int .u8 (v5 / 16777216 % 256)] from rfl) (Reps.one (show Kd.M (Kd.int .u8) _ _ _ (v5 / 65536 % 256) [.int .u8 (v5 / 65536 % 256)] from rfl) (Reps.one (show Kd.M (Kd.int .u8) _ _ _ (v5 / 256 % 256) [.int .u8 (v5 / 256 % 256)] from rfl) (Reps.one (show Kd.M (Kd.int .u8) _ _ _ (v5 % 256) [.int .u8 (v5 % 256)] from rfl) (Reps.none _ _))))); intro vl wl ho hb hg_ hn_; clear hg_ hn_; have n0 := am_ (Kd.R_elder' HR1.out (Kd.R_base ho) hb); have n1 := am_ (Kd.R_lower (Kd.R_new' ho (Kd.R_lt HR1.out)) (below_size HB1.out)); have n2 := am_ (below_step HB1.out hb); clear HR1 HB1 ho hb; have HR1 := n0; have HO1 := n1; have HB1 := n2; clear n0 n1 n2; obtain ⟨Ao, co, eo⟩ := Kd.R_slice HO1.out; subst eo)
       | ((with_reducible refine gate_builtin (b := .append) (xs := #[.tmp 22, .tmp 34]) rfl ?_); at_builtin; refine Kd.R_append_rows (Kd.int .u8) (w0 := W) W.heap.size rfl (.tmp 22) (.tmp 34) 22 5 (.int .u8 0) 1 rfl Try.underlying22 info5 rfl (by decide) (by omega) u6 (outBytes [v0, v1, v2, v3, v4, v5, v6, v7] 5) (wordBytes v5) _ _ _ (fun k_ => some k_ ≠ (.slice Ao (wordBytes v5).length co : Value).ownBlock) (fun _ => False) rfl rfl (Kd.R_mono HR1.out (fun _ hk => hk.2)) (Kd.R_reads' HO1.out).2.2 (fun _ _ h => h) (fun _ h => h.elim) (fun k_ hk => Kd.fresh' (Kd.R_lt HO1.out) k_ hk) HB1.out (below_size HB1.out) (by simp [outBytes, wordBytes]) ?_; intro va wa ho hb hg_ hn_; clear hg_ hn_))
      go_roundw
      case rel => exact ⟨6, by omega, by go_num, ⟨Kd.R_mono ho (fun _ _ => trivial)⟩, ⟨hb⟩⟩
      case measure => simp [intOf]
     ·go_wp2_with (first
       | ((with_reducible refine gate_dst (N := 34) rfl ?_); refine Kd.R_lit (Kd.int .u8) _ 5 ?hg (N := 34) ?hd (xs := wordBytes v6) (inner := [.int .u8 (v6 / 16777216 % 256), .int .u8 (v6 / 65536 % 256), .int .u8 (v6 / 256 % 256), .int .u8 (v6 % 256)]) (ok := fun _ => True) (okp := fun _ => True) ?hr ?hp (fun _ hk => hk) trivial (Below.refl _ _) (Nat.le_refl _) (by simp [wordBytes]) ?_; (case hd => rfl); (case hg => rfl); (case hr => first | (go_simp; done) | (go_simp; rfl)); (case hp => exact Reps.one (show Kd.M (Kd.int .u8) _ _ _ (v6 / 16777216 % 256) [.int .u8 (v6 / 16777216 % 256)] from rfl) (Reps.one (show Kd.M (Kd.int .u8) _ _ _ (v6 / 65536 % 256) [.int .u8 (v6 / 65536 % 256)] from rfl) (Reps.one (show Kd.M (Kd.int .u8) _ _ _ (v6 / 256 % 256) [.int .u8 (v6 / 256 % 256)] from rfl) (Reps.one (show Kd.M (Kd.int .u8) _ _ _ (v6 % 256) [.int .u8 (v6 % 256)] from rfl) (Reps.none _ _))))); intro vl wl ho hb hg_ hn_; clear hg_ hn_; have n0 := am_ (Kd.R_elder' HR1.out (Kd.R_base ho) hb); have n1 := am_ (Kd.R_lower (Kd.R_new' ho (Kd.R_lt HR1.out)) (below_size HB1.out)); have n2 := am_ (below_step HB1.out hb); clear HR1 HB1 ho hb; have HR1 := n0; have HO1 := n1; have HB1 := n2; clear n0 n1 n2; obtain ⟨Ao, co, eo⟩ := Kd.R_slice HO1.out; subst eo)
       | ((with_reducible refine gate_builtin (b := .append) (xs := #[.tmp 22, .tmp 34]) rfl ?_); at_builtin; refine Kd.R_append_rows (Kd.int .u8) (w0 := W) W.heap.size rfl (.tmp 22) (.tmp 34) 22 5 (.int .u8 0) 1 rfl Try.underlying22 info5 rfl (by decide) (by omega) u6 (outBytes [v0, v1, v2, v3, v4, v5, v6, v7] 6) (wordBytes v6) _ _ _ (fun k_ => some k_ ≠ (.slice Ao (wordBytes v6).length co : Value).ownBlock) (fun _ => False) rfl rfl (Kd.R_mono HR1.out (fun _ hk => hk.2)) (Kd.R_reads' HO1.out).2.2 (fun _ _ h => h) (fun _ h => h.elim) (fun k_ hk => Kd.fresh' (Kd.R_lt HO1.out) k_ hk) HB1.out (below_size HB1.out) (by simp [outBytes, wordBytes]) ?_; intro va wa ho hb hg_ hn_; clear hg_ hn_))
      go_roundw
      case rel => exact ⟨7, by omega, by go_num, ⟨Kd.R_mono ho (fun _ _ => trivial)⟩, ⟨hb⟩⟩
      case measure => simp [intOf]
     ·go_wp2_with (first
       | ((with_reducible refine gate_dst (N := 34) rfl ?_); refine Kd.R_lit (Kd.int .u8) _ 5 ?hg (N := 34) ?hd (xs := wordBytes v7) (inner := [.int .u8 (v7 / 16777216 % 256), .int .u8 (v7 / 65536 % 256), .int .u8 (v7 / 256 % 256), .int .u8 (v7 % 256)]) (ok := fun _ => True) (okp := fun _ => True) ?hr ?hp (fun _ hk => hk) trivial (Below.refl _ _) (Nat.le_refl _) (by simp [wordBytes]) ?_; (case hd => rfl); (case hg => rfl); (case hr => first | (go_simp; done) | (go_simp; rfl)); (case hp => exact Reps.one (show Kd.M (Kd.int .u8) _ _ _ (v7 / 16777216 % 256) [.int .u8 (v7 / 16777216 % 256)] from rfl) (Reps.one (show Kd.M (Kd.int .u8) _ _ _ (v7 / 65536 % 256) [.int .u8 (v7 / 65536 % 256)] from rfl) (Reps.one (show Kd.M (Kd.int .u8) _ _ _ (v7 / 256 % 256) [.int .u8 (v7 / 256 % 256)] from rfl) (Reps.one (show Kd.M (Kd.int .u8) _ _ _ (v7 % 256) [.int .u8 (v7 % 256)] from rfl) (Reps.none _ _))))); intro vl wl ho hb hg_ hn_; clear hg_ hn_; have n0 := am_ (Kd.R_elder' HR1.out (Kd.R_base ho) hb); have n1 := am_ (Kd.R_lower (Kd.R_new' ho (Kd.R_lt HR1.out)) (below_size HB1.out)); have n2 := am_ (below_step HB1.out hb); clear HR1 HB1 ho hb; have HR1 := n0; have HO1 := n1; have HB1 := n2; clear n0 n1 n2; obtain ⟨Ao, co, eo⟩ := Kd.R_slice HO1.out; subst eo)
       | ((with_reducible refine gate_builtin (b := .append) (xs := #[.tmp 22, .tmp 34]) rfl ?_); at_builtin; refine Kd.R_append_rows (Kd.int .u8) (w0 := W) W.heap.size rfl (.tmp 22) (.tmp 34) 22 5 (.int .u8 0) 1 rfl Try.underlying22 info5 rfl (by decide) (by omega) u6 (outBytes [v0, v1, v2, v3, v4, v5, v6, v7] 7) (wordBytes v7) _ _ _ (fun k_ => some k_ ≠ (.slice Ao (wordBytes v7).length co : Value).ownBlock) (fun _ => False) rfl rfl (Kd.R_mono HR1.out (fun _ hk => hk.2)) (Kd.R_reads' HO1.out).2.2 (fun _ _ h => h) (fun _ h => h.elim) (fun k_ hk => Kd.fresh' (Kd.R_lt HO1.out) k_ hk) HB1.out (below_size HB1.out) (by simp [outBytes, wordBytes]) ?_; intro va wa ho hb hg_ hn_; clear hg_ hn_))
      go_roundw
      case rel => exact ⟨8, by omega, by go_num, ⟨Kd.R_mono ho (fun _ _ => trivial)⟩, ⟨hb⟩⟩
      case measure => simp [intOf]
    ·obtain rfl : k = 8 := by omega
     have b20 : decide (((8 : Nat) : Int) < 8) = false := by decide
     have hcv := own_string (P := Try.prog) Try.underlying22 Try.underlying5 Try.underlying9 (Kd.own_of_R HR1.out)
     go_wp2
     have hK' : wr.heap[D]? = some (.deferred (some [])) := (HB1.out.block D (Array.getElem?_eq_some_iff.1 HKD.out).1).trans HKD.out
     refine ⟨by simp, .inl ⟨_, _, rfl, run_takeDeferred hK', ?_⟩⟩
     have hsha : sha l0 = strOfNums (outBytes [v0, v1, v2, v3, v4, v5, v6, v7] 8) := by
      rw [sha, shaBytes, HV.out]
     have hBz : Below w.heap.size w (wr.putObj D (.deferred none)) := by
      have hsz := HBB.out.size
      have hD := HD.out
      have h1 : Below w.heap.size w wr := HBB.out.trans (HB1.out.mono hsz)
      have h2 := HL.out.2
      have h3 := HB3.out.size
      have h4 := HS4.out
      exact h1.trans (belowK_b (w := w) (Nat.le_refl _) wr D _ _ (by omega) hK' rfl rfl)
     rw [hsha]
     refine ⟨.string (strOfNums (outBytes [v0, v1, v2, v3, v4, v5, v6, v7] 8)), ?_, rfl, hBz⟩
     simp [results, Try.f97, go_sem]
 ·rw [if_neg hl] at h
  cases h
end Go.Proofs.Ytnlndmoecljicaa.Q
end
section
namespace Go.Proofs.Ytnlndmoecljicaa.Q
open Go.Proofs.Ytnlndmoecljicaa.B Go.Proofs.YtnlndmoecljicaaW.PrintMore Go.Proofs.YtnlndmoecljicaaW.PrintWords Go.RowKit
set_option maxHeartbeats 8000000
set_option maxRecDepth 100000
def U (x : Int) : Prop := 0 ≤ x ∧ x < 4294967296
theorem U_bits (op : BinOp) (a b : Int) : U (Go.bits op .u32 a b) := by
 unfold Go.bits U
 rw [IntKind.wrap_u32]
 omega
theorem U_mod (x : Int) : U (x % 4294967296) := by unfold U; omega
theorem wraps63 (n : Int) (h₀ : 0 ≤ n) (h₁ : n < 2 ^ 63) : IntKind.i64.wrap n = n := by rw [IntKind.wrap_i64]; omega
theorem wraps32 (n : Int) (h₀ : 0 ≤ n) (h₁ : n < 2 ^ 32) : IntKind.u32.wrap n = n := by rw [IntKind.wrap_u32]; omega
theorem bits_xor_nat (k : IntKind) (j : Nat) (hj : j ≤ k.bits) (hk : ∀ n : Int, 0 ≤ n → n < 2 ^ j → k.wrap n = n) (a b : Nat) (ha : a < 2 ^ j) (hb : b < 2 ^ j) : Go.bits .xor k a b = ((a ^^^ b : Nat) : Int) := by
 have hp : 2 ^ j ≤ 2 ^ k.bits := Nat.pow_le_pow_right (by decide) hj
 have ha' : a % 2 ^ k.bits = a := Nat.mod_eq_of_lt (Nat.lt_of_lt_of_le ha hp)
 have hb' : b % 2 ^ k.bits = b := Nat.mod_eq_of_lt (Nat.lt_of_lt_of_le hb hp)
 have cast : ∀ n : Nat, n < 2 ^ j → ((n : Nat) : Int) < 2 ^ j := fun n h => by exact_mod_cast h
 simp only [Go.bits, BitVec.ofInt_natCast, BitVec.toNat_xor, BitVec.toNat_ofNat, ha', hb']
 exact hk _ (Int.natCast_nonneg _) (cast _ (Nat.xor_lt_two_pow ha hb))
theorem xor_eq {a b : Int} (ha : U a) (hb : U b) : Go.bits .xor .i64 a b = Go.bits .xor .u32 a b := by
 obtain ⟨a, rfl⟩ := Int.eq_ofNat_of_zero_le ha.1
 obtain ⟨b, rfl⟩ := Int.eq_ofNat_of_zero_le hb.1
 have h1 := ha.2
 have h2 := hb.2
 rw [bits_xor_nat .i64 63 (by decide) wraps63 a b (by omega) (by omega), bits_xor_nat .u32 32 (by decide) wraps32 a b (by omega) (by omega)]
theorem and_eq {a b : Int} (ha : U a) (hb : U b) : Go.bits .and .i64 a b = Go.bits .and .u32 a b := by
 obtain ⟨a, rfl⟩ := Int.eq_ofNat_of_zero_le ha.1
 obtain ⟨b, rfl⟩ := Int.eq_ofNat_of_zero_le hb.1
 have h1 := ha.2
 have h2 := hb.2
 rw [(bits_nat .i64 63 (by decide) wraps63 a b (by omega) (by omega)).1, (bits_nat .u32 32 (by decide) wraps32 a b (by omega) (by omega)).1]
theorem or_eq {a b : Int} (ha : U a) (hb : U b) : Go.bits .or .i64 a b = Go.bits .or .u32 a b := by
 obtain ⟨a, rfl⟩ := Int.eq_ofNat_of_zero_le ha.1
 obtain ⟨b, rfl⟩ := Int.eq_ofNat_of_zero_le hb.1
 have h1 := ha.2
 have h2 := hb.2
 rw [(bits_nat .i64 63 (by decide) wraps63 a b (by omega) (by omega)).2, (bits_nat .u32 32 (by decide) wraps32 a b (by omega) (by omega)).2]
theorem mask32 {x : Int} (h0 : 0 ≤ x) (h1 : x < 9223372036854775808) : Go.bits .and .i64 x 4294967295 = x % 4294967296 :=
 bits_mask .i64 63 (by decide) wraps63 32 (by decide) x h0 h1
theorem xor3_eq {a b c : Int} (ha : U a) (hb : U b) (hc : U c) : Go.bits .xor .i64 (Go.bits .xor .i64 a b) c = Go.bits .xor .u32 (Go.bits .xor .u32 a b) c := by
 rw [xor_eq ha hb, xor_eq (U_bits _ _ _) hc]
theorem U_rotr (a : Int) (n : Nat) : U (rotr a n) := U_bits _ _ _
theorem turn_eq {a : Int} (n : Nat) (ha : U a) (h2 : 2 ≤ n) (hn : n ≤ 32) (i1 : IntKind.u64.wrap (n : Int) = n) (i2 : IntKind.u64.wrap (wrap64 (32 - (n : Int))) = 32 - (n : Int)) : spec_l2Turn.f a n = some (rotr a n) := by
 unfold spec_l2Turn.f rotr
 rw [i1, i2, if_pos (by omega), if_pos (by omega)]
 congr 1
 obtain ⟨a, rfl⟩ := Int.eq_ofNat_of_zero_le ha.1
 have h1 : a < 2 ^ 32 := by have := ha.2; omega
 have hsub : (32 - (n : Int)).toNat = 32 - n := by omega
 have e1 : shr .i64 (a : Int) n = ((a / 2 ^ n : Nat) : Int) := by
  unfold shr
  rw [show min (n : Int).toNat IntKind.i64.bits = n from by simp [IntKind.bits] <;> omega]
  simp
 have e2 : shr .u32 (a : Int) n = ((a / 2 ^ n : Nat) : Int) := by
  unfold shr
  rw [show min (n : Int).toNat IntKind.u32.bits = n from by simp [IntKind.bits] <;> omega]
  simp
 have hpow : a * 2 ^ (32 - n) < 2 ^ 62 := by
  have : 2 ^ (32 - n) ≤ 2 ^ 30 := Nat.pow_le_pow_right (by decide) (by omega)
  calc a * 2 ^ (32 - n) ≤ a * 2 ^ 30 := Nat.mul_le_mul_left _ this
   _ < 2 ^ 32 * 2 ^ 30 := Nat.mul_lt_mul_of_pos_right h1 (by decide)
   _ = 2 ^ 62 := by decide
 have hcast : ((a : Int) * 2 ^ (32 - n)) = ((a * 2 ^ (32 - n) : Nat) : Int) := by simp
 have e3 : shl .i64 (a : Int) (32 - (n : Int)) = ((a * 2 ^ (32 - n) : Nat) : Int) := by
  unfold shl
  rw [show min (32 - (n : Int)).toNat IntKind.i64.bits = 32 - n from by simp [IntKind.bits] <;> omega, hcast, wraps63 _ (by omega) (by omega)]
 have e4 : shl .u32 (a : Int) (32 - (n : Int)) = ((a * 2 ^ (32 - n) % 2 ^ 32 : Nat) : Int) := by
  unfold shl
  rw [show min (32 - (n : Int)).toNat IntKind.u32.bits = 32 - n from by simp [IntKind.bits] <;> omega, hcast, IntKind.wrap_u32]
  omega
 have hd : a / 2 ^ n < 2 ^ 32 := Nat.lt_of_le_of_lt (Nat.div_le_self _ _) h1
 rw [e1, e2, e3, e4, (bits_nat .i64 63 (by decide) wraps63 _ _ (by omega) (by omega)).2]
 have hor : a / 2 ^ n ||| a * 2 ^ (32 - n) < 2 ^ 63 := Nat.or_lt_two_pow (by omega) (by omega)
 rw [mask32 (by omega) (by omega), (bits_nat .u32 32 (by decide) wraps32 _ _ (Nat.mod_lt _ (by decide)) hd).2]
 have hm : (a / 2 ^ n ||| a * 2 ^ (32 - n)) % 2 ^ 32 = a * 2 ^ (32 - n) % 2 ^ 32 ||| a / 2 ^ n := by
  rw [Nat.or_mod_two_pow, Nat.mod_eq_of_lt hd, Nat.or_comm]
 rw [← hm]
 simp
theorem turn2 {a : Int} (ha : U a) : spec_l2Turn.f a 2 = some (rotr a 2) := turn_eq 2 ha (by decide) (by decide) (by decide +kernel) (by decide +kernel)
theorem turn6 {a : Int} (ha : U a) : spec_l2Turn.f a 6 = some (rotr a 6) := turn_eq 6 ha (by decide) (by decide) (by decide +kernel) (by decide +kernel)
theorem turn7 {a : Int} (ha : U a) : spec_l2Turn.f a 7 = some (rotr a 7) := turn_eq 7 ha (by decide) (by decide) (by decide +kernel) (by decide +kernel)
theorem turn11 {a : Int} (ha : U a) : spec_l2Turn.f a 11 = some (rotr a 11) := turn_eq 11 ha (by decide) (by decide) (by decide +kernel) (by decide +kernel)
theorem turn13 {a : Int} (ha : U a) : spec_l2Turn.f a 13 = some (rotr a 13) := turn_eq 13 ha (by decide) (by decide) (by decide +kernel) (by decide +kernel)
theorem turn17 {a : Int} (ha : U a) : spec_l2Turn.f a 17 = some (rotr a 17) := turn_eq 17 ha (by decide) (by decide) (by decide +kernel) (by decide +kernel)
theorem turn18 {a : Int} (ha : U a) : spec_l2Turn.f a 18 = some (rotr a 18) := turn_eq 18 ha (by decide) (by decide) (by decide +kernel) (by decide +kernel)
theorem turn19 {a : Int} (ha : U a) : spec_l2Turn.f a 19 = some (rotr a 19) := turn_eq 19 ha (by decide) (by decide) (by decide +kernel) (by decide +kernel)
theorem turn22 {a : Int} (ha : U a) : spec_l2Turn.f a 22 = some (rotr a 22) := turn_eq 22 ha (by decide) (by decide) (by decide +kernel) (by decide +kernel)
theorem turn25 {a : Int} (ha : U a) : spec_l2Turn.f a 25 = some (rotr a 25) := turn_eq 25 ha (by decide) (by decide) (by decide +kernel) (by decide +kernel)
theorem be_eq {b0 b1 b2 b3 : Int} (h0 : 0 ≤ b0 ∧ b0 ≤ 255) (h1 : 0 ≤ b1 ∧ b1 ≤ 255) (h2 : 0 ≤ b2 ∧ b2 ≤ 255) (h3 : 0 ≤ b3 ∧ b3 ≤ 255) :
  Go.bits .or .i64 (Go.bits .or .i64 (Go.bits .or .i64 (wrap64 (wrap64 b0 * 16777216)) (wrap64 (wrap64 b1 * 65536))) (wrap64 (wrap64 b2 * 256))) (wrap64 b3) =
  Go.bits .or .u32 (Go.bits .or .u32 (Go.bits .or .u32 (b0 % 4294967296 * 16777216 % 4294967296) (b1 % 4294967296 * 65536 % 4294967296)) (b2 % 4294967296 * 256 % 4294967296)) (b3 % 4294967296) := by
 have e0 : b0 % 4294967296 * 16777216 % 4294967296 = wrap64 (wrap64 b0 * 16777216) := by rw [w64 (x := b0) (by omega) (by omega), w64 (by omega) (by omega)]; omega
 have e1 : b1 % 4294967296 * 65536 % 4294967296 = wrap64 (wrap64 b1 * 65536) := by rw [w64 (x := b1) (by omega) (by omega), w64 (by omega) (by omega)]; omega
 have e2 : b2 % 4294967296 * 256 % 4294967296 = wrap64 (wrap64 b2 * 256) := by rw [w64 (x := b2) (by omega) (by omega), w64 (by omega) (by omega)]; omega
 have e3 : b3 % 4294967296 = wrap64 b3 := by rw [w64 (x := b3) (by omega) (by omega)]; omega
 rw [← e0, ← e1, ← e2, ← e3, or_eq (U_mod _) (U_mod _), or_eq (U_bits _ _ _) (U_mod _), or_eq (U_bits _ _ _) (U_mod _)]
theorem getD_range {p : Int → Prop} {bs : List Int} (h : ∀ x ∈ bs, p x) (h0 : p 0) (i : Nat) : p (bs.getD i 0) := by
 rw [List.getD_eq_getElem?_getD]
 rcases hx : bs[i]? with _ | x
 ·exact h0
 ·exact h x (List.mem_of_getElem? hx)
theorem rd_range {p : Int → Prop} {bs : List Int} (h : ∀ x ∈ bs, p x) (h0 : p 0) (i : Int) : p (rd bs i) := getD_range h h0 _
theorem U0 : U 0 := by unfold U; omega
theorem wAt_U (bs : List Int) (i : Nat) : ∀ x ∈ wAt bs i, U x := by
 induction i with
 | zero =>
  intro x hx
  simp [wAt] at hx
  rw [hx]
  exact U0
 | succ i ih =>
  intro x hx
  simp only [wAt] at hx
  rcases List.mem_or_eq_of_mem_set hx with hx | rfl
  ·exact ih x hx
  ·split
   ·exact U_bits _ _ _
   ·exact U_mod _
theorem rd_take {l : List Int} {i j : Nat} (h : j < i) : rd (l.take i) (j : Int) = l.getD j 0 := by
 unfold rd
 rw [Int.toNat_natCast, List.getD_eq_getElem?_getD, List.getElem?_take, if_pos h, List.getD_eq_getElem?_getD]
theorem wAt_next (bs : List Int) (i : Nat) (hi : i < 64) : (wAt bs (i + 1)).take (i + 1) = (wAt bs i).take i ++ [if i < 16 then be32 bs i else wMix ((wAt bs i).getD (i - 16) 0) ((wAt bs i).getD (i - 15) 0) ((wAt bs i).getD (i - 7) 0) ((wAt bs i).getD (i - 2) 0)] := by
 simp only [wAt]
 exact set_take _ (by rw [wAt_length]; exact hi)
theorem taken_length (bs : List Int) (i : Nat) (hi : i ≤ 64) : ((wAt bs i).take i).length = i := by rw [List.length_take, wAt_length]; omega
theorem mix_eq {a16 a15 a7 a2 : Int} (h16 : U a16) (h15 : U a15) (h7 : U a7) (h2 : U a2) :
  Go.bits .and .i64 (wrap64 ((wrap64 ((wrap64 (a16 + (Go.bits .xor .i64 (Go.bits .xor .i64 (rotr a15 7) (rotr a15 18)) (a15 / 8)))) + a7)) + (Go.bits .xor .i64 (Go.bits .xor .i64 (rotr a2 17) (rotr a2 19)) (a2 / 1024)))) 4294967295 = wMix a16 a15 a7 a2 := by
 have d15 : U (a15 / 8) := by unfold U at *; omega
 have d2 : U (a2 / 1024) := by unfold U at *; omega
 rw [xor3_eq (U_rotr _ _) (U_rotr _ _) d15, xor3_eq (U_rotr _ _) (U_rotr _ _) d2]
 unfold wMix
 have u1 := U_bits .xor (Go.bits .xor .u32 (rotr a15 7) (rotr a15 18)) (a15 / 8)
 have u2 := U_bits .xor (Go.bits .xor .u32 (rotr a2 17) (rotr a2 19)) (a2 / 1024)
 generalize Go.bits .xor .u32 (Go.bits .xor .u32 (rotr a15 7) (rotr a15 18)) (a15 / 8) = s1 at u1 ⊢
 generalize Go.bits .xor .u32 (Go.bits .xor .u32 (rotr a2 17) (rotr a2 19)) (a2 / 1024) = s2 at u2 ⊢
 unfold U at *
 rw [w64 (x := a16 + s1) (by omega) (by omega), w64 (x := a16 + s1 + a7) (by omega) (by omega), w64 (by omega) (by omega), mask32 (by omega) (by omega)]
theorem words_l1 (bs : List Int) : ∀ (d i : Nat), i + d = 64 → 16 ≤ i → Ev (fun k => spec_l2Words.l1 k ((wAt bs i).take i) (i : Int)) (wAt bs 64) := by
 intro d
 induction d with
 | zero =>
  intro i hi _
  obtain rfl : i = 64 := by omega
  refine Ev.step (f := fun _ => some ((wAt bs 64).take 64)) (fun k => ?_) (Ev.one (Ev.now _) (List.take_of_length_le (by rw [wAt_length]; exact Nat.le_refl _)))
  simp only [spec_l2Words.l1]
  rw [if_neg (by omega)]
 | succ d ih =>
  intro i hi h16
  have hlen := taken_length bs i (by omega)
  have u : ∀ j, U ((wAt bs i).getD j 0) := fun j => getD_range (wAt_U bs i) U0 j
  refine Ev.step (fun k => ?_) (Ev.one (ih (i + 1) (by omega) (by omega)) rfl)
  simp only [spec_l2Words.l1]
  rw [if_pos (by omega), w64 (x := (i : Int) - 15) (by omega) (by omega), w64 (x := (i : Int) - 2) (by omega) (by omega), w64 (x := (i : Int) - 16) (by omega) (by omega), w64 (x := (i : Int) - 7) (by omega) (by omega), w64 (x := (i : Int) + 1) (by omega) (by omega), if_pos (by omega), if_pos (by omega), if_pos (by omega), if_pos (by omega)]
  rw [show (i : Int) - 15 = ((i - 15 : Nat) : Int) from by omega, show (i : Int) - 2 = ((i - 2 : Nat) : Int) from by omega, show (i : Int) - 16 = ((i - 16 : Nat) : Int) from by omega, show (i : Int) - 7 = ((i - 7 : Nat) : Int) from by omega]
  rw [rd_take (by omega), rd_take (by omega), rd_take (by omega), rd_take (by omega)]
  rw [turn7 (u _), turn18 (u _), turn17 (u _), turn19 (u _)]
  simp only [Option.bind_some]
  rw [if_pos (by omega), if_pos (by omega), if_pos (by omega), if_pos (by omega), if_pos (by omega)]
  rw [mix_eq (u _) (u _) (u _) (u _), wAt_next bs i (by omega), if_neg (show ¬ i < 16 by omega)]
  rfl
theorem words_l0 (bs : List Int) (hl : bs.length = 64) (hb : ∀ x ∈ bs, 0 ≤ x ∧ x ≤ 255) : ∀ (d i : Nat), i + d = 16 → Ev (fun k => spec_l2Words.l0 k bs ((wAt bs i).take i) (i : Int)) (wAt bs 64) := by
 intro d
 induction d with
 | zero =>
  intro i hi
  obtain rfl : i = 16 := by omega
  refine Ev.step (fun k => ?_) (words_l1 bs 48 16 (by omega) (by omega))
  simp only [spec_l2Words.l0]
  rw [if_neg (by omega)]
  rfl
 | succ d ih =>
  intro i hi
  have hlen := taken_length bs i (by omega)
  have u : ∀ j, 0 ≤ rd bs j ∧ rd bs j ≤ 255 := fun j => rd_range hb (by omega) j
  refine Ev.step (fun k => ?_) (ih (i + 1) (by omega))
  simp only [spec_l2Words.l0]
  rw [if_pos (by omega), w64 (x := 4 * (i : Int)) (by omega) (by omega), w64 (x := 4 * (i : Int) + 1) (by omega) (by omega), w64 (x := 4 * (i : Int) + 2) (by omega) (by omega), w64 (x := 4 * (i : Int) + 3) (by omega) (by omega), w64 (x := (i : Int) + 1) (by omega) (by omega)]
  rw [if_pos (by omega), if_pos (by omega), if_pos (by omega), if_pos (by omega), if_pos (by omega), if_pos (by omega), if_pos (by omega), if_pos (by omega), if_pos (by omega)]
  rw [be_eq (u _) (u _) (u _) (u _), wAt_next bs i (by omega), if_pos (show i < 16 by omega)]
  rfl
theorem words_ev (bs : List Int) (hl : bs.length = 64) (hb : ∀ x ∈ bs, 0 ≤ x ∧ x ≤ 255) : Ev (fun k => spec_l2Words.f k bs) (wAt bs 64) := words_l0 bs hl hb 16 0 rfl
theorem U_step (kc wc : Int) (v : List Int) (h : ∀ x ∈ v, U x) : ∀ x ∈ turnStep kc wc v, U x := by
 unfold turnStep
 split
 ·rename_i a b c d e f g h'
  intro x hx
  simp only [List.mem_cons, List.not_mem_nil, or_false] at hx h
  rcases hx with rfl | rfl | rfl | rfl | rfl | rfl | rfl | rfl
  ·exact U_mod _
  ·exact h _ (by simp)
  ·exact h _ (by simp)
  ·exact h _ (by simp)
  ·exact U_mod _
  ·exact h _ (by simp)
  ·exact h _ (by simp)
  ·exact h _ (by simp)
 ·exact h
theorem vAt_U (ks ws hs : List Int) (h : ∀ x ∈ hs, U x) (i : Nat) : ∀ x ∈ vAt ks ws hs i, U x := by
 induction i with
 | zero => exact h
 | succ i ih => exact U_step _ _ _ ih
theorem U_max : U 4294967295 := by unfold U; omega
theorem step_eq {a b c d e f g h kc wc : Int} (ha : U a) (hb : U b) (hc : U c) (hd : U d) (he : U e) (hf : U f) (hg : U g) (hh : U h) (hk : U kc) (hw : U wc) :
  ([Go.bits .and .i64 (wrap64 ((wrap64 ((wrap64 ((wrap64 ((wrap64 (h + (Go.bits .xor .i64 (Go.bits .xor .i64 (rotr e 6) (rotr e 11)) (rotr e 25)))) + (Go.bits .xor .i64 (Go.bits .and .i64 e f) (Go.bits .and .i64 (Go.bits .xor .i64 4294967295 e) g)))) + kc)) + wc)) + (wrap64 ((Go.bits .xor .i64 (Go.bits .xor .i64 (rotr a 2) (rotr a 13)) (rotr a 22)) + (Go.bits .xor .i64 (Go.bits .xor .i64 (Go.bits .and .i64 a b) (Go.bits .and .i64 a c)) (Go.bits .and .i64 b c)))))) 4294967295, a, b, c,
   Go.bits .and .i64 (wrap64 (d + (wrap64 ((wrap64 ((wrap64 ((wrap64 (h + (Go.bits .xor .i64 (Go.bits .xor .i64 (rotr e 6) (rotr e 11)) (rotr e 25)))) + (Go.bits .xor .i64 (Go.bits .and .i64 e f) (Go.bits .and .i64 (Go.bits .xor .i64 4294967295 e) g)))) + kc)) + wc)))) 4294967295, e, f, g] : List Int) = turnStep kc wc [a, b, c, d, e, f, g, h] := by
 rw [xor3_eq (U_rotr _ _) (U_rotr _ _) (U_rotr _ _), xor3_eq (U_rotr _ _) (U_rotr _ _) (U_rotr _ _), and_eq he hf, xor_eq U_max he, and_eq (U_bits _ _ _) hg, xor_eq (U_bits _ _ _) (U_bits _ _ _), and_eq ha hb, and_eq ha hc, and_eq hb hc, xor3_eq (U_bits _ _ _) (U_bits _ _ _) (U_bits _ _ _)]
 unfold turnStep tT1 tS1 tS0 tMaj
 simp only []
 rw [show IntKind.u32.max = 4294967295 from by decide]
 have u1 := U_bits .xor (Go.bits .xor .u32 (rotr e 6) (rotr e 11)) (rotr e 25)
 have u2 := U_bits .xor (Go.bits .and .u32 e f) (Go.bits .and .u32 (Go.bits .xor .u32 4294967295 e) g)
 have u3 := U_bits .xor (Go.bits .xor .u32 (rotr a 2) (rotr a 13)) (rotr a 22)
 have u4 := U_bits .xor (Go.bits .xor .u32 (Go.bits .and .u32 a b) (Go.bits .and .u32 a c)) (Go.bits .and .u32 b c)
 generalize Go.bits .xor .u32 (Go.bits .xor .u32 (rotr e 6) (rotr e 11)) (rotr e 25) = s1 at u1 ⊢
 generalize Go.bits .xor .u32 (Go.bits .and .u32 e f) (Go.bits .and .u32 (Go.bits .xor .u32 4294967295 e) g) = s2 at u2 ⊢
 generalize Go.bits .xor .u32 (Go.bits .xor .u32 (rotr a 2) (rotr a 13)) (rotr a 22) = s3 at u3 ⊢
 generalize Go.bits .xor .u32 (Go.bits .xor .u32 (Go.bits .and .u32 a b) (Go.bits .and .u32 a c)) (Go.bits .and .u32 b c) = s4 at u4 ⊢
 unfold U at *
 rw [w64 (x := h + s1) (by omega) (by omega), w64 (x := h + s1 + s2) (by omega) (by omega), w64 (x := h + s1 + s2 + kc) (by omega) (by omega), w64 (x := h + s1 + s2 + kc + wc) (by omega) (by omega), w64 (x := s3 + s4) (by omega) (by omega), w64 (x := d + (h + s1 + s2 + kc + wc)) (by omega) (by omega), w64 (by omega) (by omega), mask32 (by omega) (by omega), mask32 (by omega) (by omega)]
 congr 1
 rw [Int.add_assoc (h + s1 + s2 + kc + wc) s3 s4]
theorem addAt_get (hs vs : List Int) (hv : vs.length = 8) (hh : hs.length = 8) (i : Nat) (hi : i ≤ 8) (j : Nat) (hj : j < 8) : (addAt hs vs i).getD j 0 = if j < i then (hs.getD j 0 + vs.getD j 0) % 4294967296 else hs.getD j 0 := by
 induction i with
 | zero => simp [addAt]
 | succ i ih =>
  have ih := ih (by omega)
  simp only [addAt]
  have hl : (addAt hs vs i).length = 8 := by rw [addAt_length]; exact hh
  by_cases hji : j = i
  ·subst hji
   rw [List.getD_eq_getElem?_getD, List.getElem?_set_self (by omega), if_pos (by omega)]
   rw [if_neg (by omega)] at ih
   rw [ih]
   rfl
  ·rw [List.getD_eq_getElem?_getD, List.getElem?_set_ne (fun h => hji h.symm), ← List.getD_eq_getElem?_getD, ih]
   by_cases h2 : j < i
   ·rw [if_pos h2, if_pos (by omega)]
   ·rw [if_neg h2, if_neg (by omega)]
theorem block_l1 (hs vs : List Int) (hh : hs.length = 8) (hv : vs.length = 8) (uh : ∀ x ∈ hs, U x) (uv : ∀ x ∈ vs, U x) : ∀ (d i : Nat) (x : List Int), i + d = 8 → x.length = 8 → (∀ j, j < 8 → x.getD j 0 = if j < i then (hs.getD j 0 + vs.getD j 0) % 4294967296 else vs.getD j 0) →
  Ev (fun k => spec_l2Block.l1 k hs x (i : Int)) (addAt hs vs 8) := by
 intro d
 induction d with
 | zero =>
  intro i x hi hx hg
  obtain rfl : i = 8 := by omega
  refine Ev.step (f := fun _ => some x) (fun k => ?_) (Ev.one (Ev.now _) ?_)
  ·simp only [spec_l2Block.l1]
   rw [if_neg (by omega)]
  ·have hl : (addAt hs vs 8).length = 8 := by rw [addAt_length]; exact hh
   refine List.ext_getElem (by rw [hl, hx]) (fun j h1 h2 => ?_)
   have e1 := hg j (by omega)
   have e2 := addAt_get hs vs hv hh 8 (by omega) j (by omega)
   rw [if_pos (by omega)] at e1 e2
   rw [← e2] at e1
   simpa [List.getD_eq_getElem?_getD, List.getElem?_eq_getElem h1, List.getElem?_eq_getElem h2] using e1
 | succ d ih =>
  intro i x hi hx hg
  have e1 := hg i (by omega)
  rw [if_neg (by omega)] at e1
  have u1 : U (vs.getD i 0) := getD_range uv U0 i
  have u2 : U (hs.getD i 0) := getD_range uh U0 i
  have hr1 : rd x (i : Int) = vs.getD i 0 := by unfold rd; rw [Int.toNat_natCast]; exact e1
  have hr2 : rd hs (i : Int) = hs.getD i 0 := by unfold rd; rw [Int.toNat_natCast]
  refine Ev.step (fun k => ?_) (ih (i + 1) (x.set i ((hs.getD i 0 + vs.getD i 0) % 4294967296)) (by omega) (by simp [hx]) ?_)
  ·simp only [spec_l2Block.l1]
   unfold U at u1 u2
   rw [if_pos (by omega), if_pos (by omega), if_pos (by omega), if_pos (by omega), hr1, hr2, w64 (x := (i : Int) + 1) (by omega) (by omega), w64 (by omega) (by omega), mask32 (by omega) (by omega), Int.toNat_natCast, Int.add_comm (vs.getD i 0)]
   rfl
  ·intro j hj
   by_cases hji : j = i
   ·subst hji
    rw [List.getD_eq_getElem?_getD, List.getElem?_set_self (by omega), if_pos (by omega)]
    rfl
   ·rw [List.getD_eq_getElem?_getD, List.getElem?_set_ne (fun h => hji h.symm), ← List.getD_eq_getElem?_getD, hg j hj]
    by_cases h2 : j < i
    ·rw [if_pos h2, if_pos (by omega)]
    ·rw [if_neg h2, if_neg (by omega)]
theorem block_l0 (ks ws hs : List Int) (hk : ks.length = 64) (hw : ws.length = 64) (hh : hs.length = 8) (uk : ∀ x ∈ ks, U x) (uw : ∀ x ∈ ws, U x) (uh : ∀ x ∈ hs, U x) : ∀ (d i : Nat), i + d = 64 →
  Ev (fun k => spec_l2Block.l0 k hs ks ws (vAt ks ws hs i) (i : Int)) (addAt hs (vAt ks ws hs 64) 8) := by
 intro d
 induction d with
 | zero =>
  intro i hi
  obtain rfl : i = 64 := by omega
  have hl := vAt_eight ks ws hs hh 64
  refine Ev.step (fun k => ?_) (block_l1 hs (vAt ks ws hs 64) hh hl uh (vAt_U ks ws hs uh 64) 8 0 (vAt ks ws hs 64) rfl hl (fun j _ => by rw [if_neg (by omega)]))
  simp only [spec_l2Block.l0]
  rw [if_neg (by omega)]
  rfl
 | succ d ih =>
  intro i hi
  have hl := vAt_eight ks ws hs hh i
  have uv := vAt_U ks ws hs uh i
  have uki : U (ks.getD i 0) := getD_range uk U0 i
  have uwi : U (ws.getD i 0) := getD_range uw U0 i
  have hr1 : rd ks (i : Int) = ks.getD i 0 := by unfold rd; rw [Int.toNat_natCast]
  have hr2 : rd ws (i : Int) = ws.getD i 0 := by unfold rd; rw [Int.toNat_natCast]
  refine Ev.step (fun k => ?_) (ih (i + 1) (by omega))
  have hv : vAt ks ws hs (i + 1) = turnStep (ks.getD i 0) (ws.getD i 0) (vAt ks ws hs i) := rfl
  rw [hv]
  generalize vAt ks ws hs i = v at hl uv
  obtain ⟨a, b, c, d, e, f, g, h, rfl⟩ := eight hl
  simp only [List.mem_cons, List.not_mem_nil, or_false] at uv
  have ua := uv a (by simp)
  have ub := uv b (by simp)
  have uc := uv c (by simp)
  have ud := uv d (by simp)
  have ue := uv e (by simp)
  have uf := uv f (by simp)
  have ug := uv g (by simp)
  have uh' := uv h (by simp)
  simp only [spec_l2Block.l0]
  rw [if_pos (by omega), show rd [a, b, c, d, e, f, g, h] 0 = a from rfl, show rd [a, b, c, d, e, f, g, h] 1 = b from rfl, show rd [a, b, c, d, e, f, g, h] 2 = c from rfl, show rd [a, b, c, d, e, f, g, h] 3 = d from rfl, show rd [a, b, c, d, e, f, g, h] 4 = e from rfl, show rd [a, b, c, d, e, f, g, h] 5 = f from rfl, show rd [a, b, c, d, e, f, g, h] 6 = g from rfl, show rd [a, b, c, d, e, f, g, h] 7 = h from rfl]
  rw [turn6 ue, turn11 ue, turn25 ue, turn2 ua, turn13 ua, turn22 ua, hr1, hr2]
  simp only [Option.bind_some]
  have l8 : (([a, b, c, d, e, f, g, h] : List Int).length : Int) = 8 := rfl
  rw [l8, hk, hw]
  rw [if_pos (by omega), if_pos (by omega), if_pos (by omega), if_pos (by omega), if_pos (by omega), if_pos (by omega), if_pos (by omega), if_pos (by omega), if_pos (by omega), if_pos (by omega), if_pos (by omega)]
  rw [step_eq ua ub uc ud ue uf ug uh' uki uwi, w64 (by omega) (by omega)]
  rfl
theorem block_ev (hs bs ks : List Int) (hk : ks.length = 64) (hl : bs.length = 64) (hh : hs.length = 8) (hb : ∀ x ∈ bs, 0 ≤ x ∧ x ≤ 255) (uk : ∀ x ∈ ks, U x) (uh : ∀ x ∈ hs, U x) : Ev (fun k => spec_l2Block.f k hs bs ks) (turned ks bs hs) := by
 unfold spec_l2Block.f
 refine Ev.bind (words_ev bs hl hb) ?_
 refine Ev.congr (fun k => ?_) (block_l0 ks (wAt bs 64) hs hk (wAt_length bs 64) hh uk (wAt_U bs 64) uh 64 0 rfl)
 simp only [Option.bind_some, List.length_nil, List.nil_append]
 rw [if_pos (by omega)]
 rfl
theorem turned_U (ks bs hs : List Int) (hh : hs.length = 8) (uh : ∀ x ∈ hs, U x) : ∀ x ∈ turned ks bs hs, U x := by
 intro x hx
 obtain ⟨j, hj, rfl⟩ := List.mem_iff_getElem.1 hx
 have hl : (turned ks bs hs).length = 8 := by rw [turned_length]; exact hh
 have := addAt_get hs (vAt ks (wAt bs 64) hs 64) (vAt_eight _ _ _ hh 64) hh 8 (by omega) j (by omega)
 rw [if_pos (by omega)] at this
 have e : (turned ks bs hs)[j] = (turned ks bs hs).getD j 0 := by simp [List.getD_eq_getElem?_getD, hj]
 rw [e]
 unfold turned
 rw [this]
 exact U_mod _
theorem shaK_U : ∀ x ∈ shaK, U x := by
 have : shaK.all (fun x => decide (0 ≤ x) && decide (x < 4294967296)) = true := by decide
 intro x hx
 have := List.all_eq_true.1 this x hx
 simp at this
 exact this
theorem shaH_U : ∀ x ∈ shaH, U x := by
 have : shaH.all (fun x => decide (0 ≤ x) && decide (x < 4294967296)) = true := by decide
 intro x hx
 have := List.all_eq_true.1 this x hx
 simp at this
 exact this
theorem foldAt_U (p : List Int) (n : Nat) : ∀ x ∈ foldAt p (starts n), U x := by
 induction n with
 | zero => exact shaH_U
 | succ n ih =>
  rw [starts_succ, foldAt_snoc]
  exact turned_U _ _ _ (foldAt_length _ _) ih
theorem spadded_l1 (n : Int) : ∀ (j : Nat) (acc : List Int), j ≤ 8 → acc.length + j ≤ 140737488355320 → Ev (fun k => spec_Padded.l1 k acc n (8 * (j : Int) - 8)) (acc ++ tailBytes n j) := by
 intro j
 induction j with
 | zero =>
  intro acc _ _
  refine Ev.step (f := fun _ => some acc) (fun k => ?_) (Ev.one (Ev.now _) (by simp [tailBytes]))
  simp only [spec_Padded.l1]
  rw [if_neg (by omega)]
 | succ j ih =>
  intro acc h1 h2
  refine Ev.step (fun k => ?_) (Ev.one (ih (acc ++ [(shr .i64 n (8 * (j : Int))) % 256]) (by omega) (by simp; omega)) (by simp [tailBytes]))
  simp only [spec_Padded.l1]
  rw [show 8 * (((j + 1 : Nat) : Int)) - 8 = 8 * (j : Int) from by omega, IntWalk.u64_in _ ⟨by omega, by omega⟩, if_pos (by omega), if_pos (by omega), if_pos (by omega), w64 (by omega) (by omega)]
theorem spadded_l0 (l : List Int) (hl : l.length ≤ 1099511627776) : ∀ (d i : Nat) (acc : List Int), i + d = zerosOf l.length → acc = l ++ [128] ++ List.replicate i 0 → Ev (fun k => spec_Padded.l0 k l acc) (padL l) := by
 intro d
 induction d with
 | zero =>
  intro i acc hi ha
  have hlen : acc.length = l.length + 1 + i := by rw [ha]; simp; omega
  have hz : zerosOf l.length = (119 - l.length % 64) % 64 := rfl
  refine Ev.step (fun k => ?_) (Ev.one (spadded_l1 (8 * (l.length : Int)) 8 acc (by omega) (by omega)) ?_)
  ·simp only [spec_Padded.l0]
   rw [if_pos (by omega), w64 (by omega) (by omega), Int.mul_comm]
   rfl
  ·rw [ha, show i = zerosOf l.length from by omega]
   rfl
 | succ d ih =>
  intro i acc hi ha
  have hlen : acc.length = l.length + 1 + i := by rw [ha]; simp; omega
  have hz : zerosOf l.length = (119 - l.length % 64) % 64 := rfl
  refine Ev.step (fun k => ?_) (ih (i + 1) (acc ++ [0]) (by omega) (by rw [ha, List.append_assoc (l ++ [128])]; congr 1; rw [List.replicate_succ']))
  simp only [spec_Padded.l0]
  rw [if_neg (by omega), if_pos (by omega)]
theorem spec_Padded_ev (l : List Int) (hl : l.length ≤ 1099511627776) : Ev (fun k => spec_Padded.f k l) (padL l) := by
 refine Ev.congr (fun k => ?_) (spadded_l0 l hl (zerosOf l.length) 0 (l ++ [128]) (by omega) (by simp))
 unfold spec_Padded.f
 simp only [Option.bind_some, List.length_nil, List.nil_append]
 rw [if_pos (by omega), if_pos (by omega)]
theorem outBytes_succ (hs : List Int) (i : Nat) (h : i < hs.length) : outBytes hs (i + 1) = outBytes hs i ++ wordBytes (hs.getD i 0) := by
 unfold outBytes
 have hx : hs[i]? = some (hs.getD i 0) := by simp [List.getD_eq_getElem?_getD, h]
 rw [take_one hx, List.flatMap_append]
 simp
theorem wordBytes_length (x : Int) : (wordBytes x).length = 4 := rfl
theorem outBytes_length (hs : List Int) (i : Nat) (h : i ≤ hs.length) : (outBytes hs i).length = 4 * i := by
 induction i with
 | zero => simp [outBytes]
 | succ i ih =>
  rw [outBytes_succ hs i h, List.length_append, ih (by omega), wordBytes_length]
  omega
theorem sdigest_l1 (hs : List Int) (hh : hs.length = 8) : ∀ (d i : Nat), i + d = 8 → Ev (fun k => spec_Digest.l1 k hs (outBytes hs i) (i : Int)) (strOfNums (outBytes hs 8)) := by
 intro d
 induction d with
 | zero =>
  intro i hi
  obtain rfl : i = 8 := by omega
  refine Ev.step (f := fun _ => some (strOfNums (outBytes hs 8))) (fun k => ?_) (Ev.now _)
  simp only [spec_Digest.l1]
  rw [if_neg (by omega)]
 | succ d ih =>
  intro i hi
  have hr : rd hs (i : Int) = hs.getD i 0 := by unfold rd; rw [Int.toNat_natCast]
  have ho := outBytes_length hs i (by omega)
  refine Ev.step (fun k => ?_) (ih (i + 1) (by omega))
  simp only [spec_Digest.l1, Option.bind_some, List.length_cons, List.length_nil]
  rw [if_pos (by omega), if_pos (by omega), if_pos (by omega), if_pos (by omega), hr, w64 (by omega) (by omega), outBytes_succ hs i (by omega)]
  rfl
theorem blockAt_mem {p : List Int} {x : Nat} {y : Int} (h : y ∈ blockAt p x) : y ∈ p := List.mem_of_mem_drop (List.mem_of_mem_take h)
theorem sdigest_l0 (p : List Int) (hp : p.length % 64 = 0) (hl : p.length ≤ 2199023255552) (hb : ∀ x ∈ p, 0 ≤ x ∧ x ≤ 255) : ∀ (d i : Nat), i + d = p.length / 64 → Ev (fun k => spec_Digest.l0 k p (foldAt p (starts i)) shaK (64 * (i : Int))) (strOfNums (outBytes (foldAt p (starts (p.length / 64))) 8)) := by
 intro d
 induction d with
 | zero =>
  intro i hi
  obtain rfl : i = p.length / 64 := by omega
  refine Ev.step (fun k => ?_) (sdigest_l1 _ (foldAt_length _ _) 8 0 rfl)
  simp only [spec_Digest.l0]
  rw [if_neg (by omega)]
  rfl
 | succ d ih =>
  intro i hi
  have hbl : (blockAt p (64 * i)).length = 64 := by simp [blockAt]; omega
  have hbe : (p.take (64 * (i : Int) + 64).toNat).drop (64 * (i : Int)).toNat = blockAt p (64 * i) := by
   rw [show (64 * (i : Int) + 64).toNat = 64 * i + 64 from by omega, show (64 * (i : Int)).toNat = 64 * i from by omega, List.drop_take]
   unfold blockAt
   congr 1
   omega
  have hB := block_ev (foldAt p (starts i)) (blockAt p (64 * i)) shaK rfl hbl (foldAt_length _ _) (fun x hx => hb x (blockAt_mem hx)) shaK_U (foldAt_U p i)
  have hI := ih (i + 1) (by omega)
  rw [starts_succ, foldAt_snoc] at hI
  refine Ev.step (fun k => ?_) (Ev.bind (f := fun k t => spec_Digest.l0 k p t shaK (64 * ((i + 1 : Nat) : Int))) hB hI)
  simp only [spec_Digest.l0]
  rw [w64 (x := 64 * (i : Int) + 64) (by omega) (by omega), if_pos (by omega), if_pos (by omega), if_pos (by omega), if_pos (by omega), hbe]
  rfl
theorem spec_Digest_ev (l : List Int) (hl : l.length ≤ 1099511627776) (hb : ∀ x ∈ l, 0 ≤ x ∧ x ≤ 255) : Ev (fun k => spec_Digest.f k l) (sha l) := by
 unfold spec_Digest.f
 refine Ev.bind (spec_Padded_ev l hl) ?_
 have hs := padL_size l
 refine Ev.congr (fun k => ?_) (sdigest_l0 (padL l) (padL_length l) (by omega) (padL_bytes l hb) ((padL l).length / 64) 0 (by omega))
 unfold spec_l2K.f
 rfl
theorem impl_Digest_is (l : List Int) (hl : l.length ≤ 1099511627776) : impl_Digest.f l = some (sha l) := if_pos hl
theorem sha_size (l : List Int) : (sha l).size = 32 := by
 unfold sha shaBytes
 have := outBytes_length (foldAt (padL l) (starts ((padL l).length / 64))) 8 (by rw [foldAt_length]; exact Nat.le_refl _)
 show ((outBytes (foldAt (padL l) (starts ((padL l).length / 64))) 8).map fun n => UInt8.ofNat n.toNat).toArray.size = 32
 simp [this]
end Go.Proofs.Ytnlndmoecljicaa.Q
end
section
namespace Go.Proofs.Ytnlndmoecljicaa.Q
open Go.Proofs.YtnlndmoecljicaaW.PrintLast Go.Proofs.YtnlndmoecljicaaW.PrintMore Go.Proofs.YtnlndmoecljicaaW.PrintWords Go.RowKit
attribute [local go_sem] max2_int min2_int max_two min_two max_three min_three max_four min_four
set_option maxHeartbeats 8000000
set_option maxRecDepth 100000
def impl_NodeHash.f (a0 : ByteArray) (a1 : ByteArray) : Option (ByteArray) := (some (([1] : List Int) : List Int)).bind fun y601 => (if y601.length + a0.size < 140737488355328 then ((some (y601 ++ bytesOf a0 : List Int)).bind fun y604 => (if y604.length + a1.size < 140737488355328 then ((impl_Digest.f (y604 ++ bytesOf a1)).bind fun t10 => (some t10)) else (none))) else (none))
theorem impl_NodeHash.calls (a0 : ByteArray) (a1 : ByteArray) (r : ByteArray) (w : World) (h : impl_NodeHash.f a0 a1 = some r) :
  Calls Try.prog 100 #[.string a0, .string a1] w fun e w' => e = .returned (.string r) ∧ Below w.heap.size w w' := by
 have HB := h0_ w
 have H : ((some (([1] : List Int) : List Int)).bind fun y601 => (if y601.length + a0.size < 140737488355328 then ((some (y601 ++ bytesOf a0 : List Int)).bind fun y604 => (if y604.length + a1.size < 140737488355328 then ((impl_Digest.f (y604 ++ bytesOf a1)).bind fun t10 => (some t10)) else (none))) else (none))) = some r := h
 clear h
 obtain ⟨y601, Ny1, H⟩ := sb_ (([1] : List Int)) H
 replace H := ip_ H; obtain ⟨c3, H⟩ := H
 have LMc3 := am_ c3
 clear c3
 obtain ⟨y604, Ny4, H⟩ := sb_ (y601 ++ bytesOf a0) H
 replace H := ip_ H; obtain ⟨c4, H⟩ := H
 have LMc4 := am_ c4
 clear c4
 obtain ⟨y607, hy7⟩ : ∃ y_ : List Int, y_ = (y604 ++ bytesOf a1) := ⟨_, rfl⟩
 replace H : ((impl_Digest.f y607).bind fun t10 => (some t10)) = some r := yh_ hy7 H
 have Ny7 := am_ hy7
 clear hy7
 replace H := bi_ H; obtain ⟨t10, A5, H⟩ := H
 obtain rfl := Option.some.inj H
 go_enter Try.func100, Try.ntmps100
 go_wp2_with (first | ((with_reducible refine gd_ 5 ?_); refine rl_ (Kd.int .u8) 5 5 ([1] : List Int) [.int .u8 1] ?_; intro v2 w6 ho7 hb hg_ hnew_; clear hg_ hnew_; (first | rw [← Ny1.out] at ho7 | (simp only [Int.reduceToNat] at ho7; rw [← Ny1.out] at ho7)); have HO3 := rlo_ ho7 HB; replace HB := ss_ HB hb; clear hb ho7) | (at_builtin; refine print_append_str (w0 := w) w.heap.size rfl (.tmp 5) _ 22 9 5 rfl Try.underlying22 Try.underlying9 info5 v2 y601 a0 rfl rfl ?aO ?aB ?aS ?aL ?_; (case aB => exact (bw_ HB)); (case aO => exact (Kd.own_of_R (kr_ HO3.out))); (case aS => exact (sz_ HB)); (case aL => have := LMc3.out; omega); intro v5 w8 ho0 hb hg; have ho := Kd.R_of_own (h1 := fun _ => rfl) (ok := fun _ => True) ho0 (fun _ _ => trivial); clear ho0; have hat := True.intro; rw [← Ny4.out] at ho; change Kd.R (Kd.int .u8) 5 w8 w.heap.size (fun _ => True) v5 y604 at ho; replace HB := am_ hb; have HO6 := am_ ho; clear HO3; clear ho hb hg hat) | (at_builtin; refine print_append_str (w0 := w) w.heap.size rfl (.tmp 7) _ 22 9 5 rfl Try.underlying22 Try.underlying9 info5 v5 y604 a1 rfl rfl ?aO ?aB ?aS ?aL ?_; (case aB => exact (bw_ HB)); (case aO => exact (Kd.own_of_R (kr_ HO6.out))); (case aS => exact (sz_ HB)); (case aL => have := LMc4.out; omega); intro v8 w9 ho0 hb hg; have ho := Kd.R_of_own (h1 := fun _ => rfl) (ok := fun _ => True) ho0 (fun _ _ => trivial); clear ho0; have hat := True.intro; rw [← Ny7.out] at ho; change Kd.R (Kd.int .u8) 5 w9 w.heap.size (fun _ => True) v8 y607 at ho; replace HB := am_ hb; have HO9 := am_ ho; clear HO6; clear ho hb hg hat; obtain ⟨Ao10, co10, eo10⟩ := Kd.R_slice HO9.out; subst eo10) | ((with_reducible refine gq_ 97 10 ?_); refine gc_ 10 Try.func97 (impl_Digest.calls _ _ y607 t10 _ (ch_ HO9) (cl_ HO9) A5.out) ?_; rintro e w11 ⟨rfl, hb⟩; refine ⟨_, rfl, ?_⟩; replace HO9 := rb_ HO9 hb; replace HB := ss_ HB hb; clear hb))
 go_ret
 exact ⟨e2_, bw_ HB⟩
def impl_LeafHash.f (a0 : ByteArray) : Option (ByteArray) := (some (([0] : List Int) : List Int)).bind fun y601 => (if y601.length + a0.size < 140737488355328 then ((impl_Digest.f (y601 ++ bytesOf a0)).bind fun t7 => (some t7)) else (none))
theorem impl_LeafHash.calls (a0 : ByteArray) (r : ByteArray) (w : World) (h : impl_LeafHash.f a0 = some r) :
  Calls Try.prog 98 #[.string a0] w fun e w' => e = .returned (.string r) ∧ Below w.heap.size w w' := by
 have HB := h0_ w
 have H : ((some (([0] : List Int) : List Int)).bind fun y601 => (if y601.length + a0.size < 140737488355328 then ((impl_Digest.f (y601 ++ bytesOf a0)).bind fun t7 => (some t7)) else (none))) = some r := h
 clear h
 obtain ⟨y601, Ny1, H⟩ := sb_ (([0] : List Int)) H
 replace H := ip_ H; obtain ⟨c2, H⟩ := H
 have LMc2 := am_ c2
 clear c2
 obtain ⟨y604, hy4⟩ : ∃ y_ : List Int, y_ = (y601 ++ bytesOf a0) := ⟨_, rfl⟩
 replace H : ((impl_Digest.f y604).bind fun t7 => (some t7)) = some r := yh_ hy4 H
 have Ny4 := am_ hy4
 clear hy4
 replace H := bi_ H; obtain ⟨t7, A3, H⟩ := H
 obtain rfl := Option.some.inj H
 go_enter Try.func98, Try.ntmps98
 go_wp2_with (first | ((with_reducible refine gd_ 3 ?_); refine rl_ (Kd.int .u8) 5 3 ([0] : List Int) [.int .u8 0] ?_; intro v2 w4 ho5 hb hg_ hnew_; clear hg_ hnew_; (first | rw [← Ny1.out] at ho5 | (simp only [Int.reduceToNat] at ho5; rw [← Ny1.out] at ho5)); have HO3 := rlo_ ho5 HB; replace HB := ss_ HB hb; clear hb ho5) | (at_builtin; refine print_append_str (w0 := w) w.heap.size rfl (.tmp 3) _ 22 9 5 rfl Try.underlying22 Try.underlying9 info5 v2 y601 a0 rfl rfl ?aO ?aB ?aS ?aL ?_; (case aB => exact (bw_ HB)); (case aO => exact (Kd.own_of_R (kr_ HO3.out))); (case aS => exact (sz_ HB)); (case aL => have := LMc2.out; omega); intro v5 w6 ho0 hb hg; have ho := Kd.R_of_own (h1 := fun _ => rfl) (ok := fun _ => True) ho0 (fun _ _ => trivial); clear ho0; have hat := True.intro; rw [← Ny4.out] at ho; change Kd.R (Kd.int .u8) 5 w6 w.heap.size (fun _ => True) v5 y604 at ho; replace HB := am_ hb; have HO6 := am_ ho; clear HO3; clear ho hb hg hat; obtain ⟨Ao7, co7, eo7⟩ := Kd.R_slice HO6.out; subst eo7) | ((with_reducible refine gq_ 97 6 ?_); refine gc_ 6 Try.func97 (impl_Digest.calls _ _ y604 t7 _ (ch_ HO6) (cl_ HO6) A3.out) ?_; rintro e w8 ⟨rfl, hb⟩; refine ⟨_, rfl, ?_⟩; replace HO6 := rb_ HO6 hb; replace HB := ss_ HB hb; clear hb))
 go_ret
 exact ⟨e2_, bw_ HB⟩
def impl_putCommit.f (k : Nat) (a0_0 : Int) (a0_1 : ByteArray) (l1 : List ByteArray) : Option (List Int) := (impl_putNum.f k ([] : List Int) a0_0).bind fun t602 => ((impl_putText.f k t602 a0_1).bind fun t5 => ((impl_putTexts.f k t5 l1).bind fun t8 => ((impl_putNum.f k ([] : List Int) (t8.length : Int)).bind fun t11 => (if t11.length + t8.length < 140737488355328 then ((some (t11 ++ t8 : List Int)).bind fun y14 => ((impl_Digest.f t8).bind fun t17 => (if 0 ≤ 4 then (if 4 ≤ (t17.size : Int) then (if y14.length + (t17.extract 0 4).size < 140737488355328 then (some (y14 ++ bytesOf (t17.extract 0 4))) else (none)) else (none)) else (none)))) else (none)))))
def impl_putCommit.T1 : Bool × List (List Nat × List Nat) := (true, [([], []), ([0], [0]), ([1], [1]), ([], []), ([3], [3]), ([2, 4, 2], [2, 4]), ([], []), ([5, 6, 5], [5, 6]), ([7, 7, 0, 1, 2, 3, 4, 5, 6, 7], [7])])
def impl_putCommit.B1 : List Nat := [0, 1, 3, 0, 8, 31, 0, 127, 255]
theorem impl_putCommit.tab1 : rtab .any (opsOf Try.f89 1) = impl_putCommit.T1 := by kernel_rfl
theorem impl_putCommit.bits1 : waitsOk impl_putCommit.T1.2 impl_putCommit.B1 = true := by kernel_rfl
theorem impl_putCommit.calls (k : Nat) (a0_0 : Int) (a0_1 : ByteArray) (A1 : Option Addr) (c1 : Nat) (l1 : List ByteArray) (r : List Int) (w : World) (hr1 : Kd.C Kd.string w A1 l1.length l1) (hc1 : l1.length ≤ c1) (h : impl_putCommit.f k a0_0 a0_1 l1 = some r) :
  Calls Try.prog 89 #[.agg #[.int .i64 a0_0, .string a0_1], .slice A1 l1.length c1] w fun e w' => ∃ v0_ : Value, e = .returned (v0_) ∧ Kd.R (Kd.int .u8) 5 w' w.heap.size (fun _ => True) v0_ r ∧ Below w.heap.size w w' := by
 have hu25 := Try.underlying25
 have HR1 := am_ hr1
 have HC1 := am_ hc1
 clear hr1 hc1
 have HB := h0_ w
 have H : ((impl_putNum.f k ([] : List Int) a0_0).bind fun t602 => ((impl_putText.f k t602 a0_1).bind fun t5 => ((impl_putTexts.f k t5 l1).bind fun t8 => ((impl_putNum.f k ([] : List Int) (t8.length : Int)).bind fun t11 => (if t11.length + t8.length < 140737488355328 then ((some (t11 ++ t8 : List Int)).bind fun y14 => ((impl_Digest.f t8).bind fun t17 => (if 0 ≤ 4 then (if 4 ≤ (t17.size : Int) then (if y14.length + (t17.extract 0 4).size < 140737488355328 then (some (y14 ++ bytesOf (t17.extract 0 4))) else (none)) else (none)) else (none)))) else (none)))))) = some r := h
 clear h
 replace H := bi_ H; obtain ⟨t602, A3, H⟩ := H
 replace H := bi_ H; obtain ⟨t5, A4, H⟩ := H
 replace H := bi_ H; obtain ⟨t8, A5, H⟩ := H
 replace H := bi_ H; obtain ⟨t11, A6, H⟩ := H
 replace H := ip_ H; obtain ⟨c7, H⟩ := H
 have LMc7 := am_ c7
 clear c7
 obtain ⟨y14, Ny14, H⟩ := sb_ (t11 ++ t8) H
 replace H := bi_ H; obtain ⟨t17, A8, H⟩ := H
 replace H := ip_ H; obtain ⟨c9, H⟩ := H
 have c9b0 := eq_true c9
 have c9b1 := decide_eq_true c9
 clear c9
 replace H := ip_ H; obtain ⟨c10, H⟩ := H
 have c10b0 := eq_true c10
 have c10b1 := decide_eq_true c10
 clear c10
 replace H := ip_ H; obtain ⟨c11, H⟩ := H
 have LMc11 := am_ c11
 clear c11
 obtain ⟨y18, hy18⟩ : ∃ y_ : List Int, y_ = (y14 ++ bytesOf (t17.extract 0 4)) := ⟨_, rfl⟩
 replace H : (some y18) = some r := yh_ hy18 H
 have Ny18 := am_ hy18
 clear hy18
 obtain rfl := Option.some.inj H
 go_enter Try.func89, Try.ntmps89
 try go_wp2_with (first | ((with_reducible refine gd_ 2 ?_); refine bx_ 2 25 #[.int .i64 a0_0, .string a0_1] (hx_ HB ?_); clear HB; intro gb1 w12 BK1 GW1 HB; have GE1 := GW1))
 replace BK1 := bd_ BK1
 replace HB := hd_ HB
 refine sw_ 9 (fun w' => w'.cell? ⟨gb1, 0, none⟩ = some (.int .i64 a0_0) ∧ w'.cell? ⟨gb1, 1, none⟩ = some (.string a0_1)) [] impl_putCommit.tab1 impl_putCommit.bits1 ⟨bc0_ BK1.out, bc1_ BK1.out⟩ (fun hHeld HT_ HW_ => ?_)
 generalize w12.drew = w13 at BK1 HB hHeld ⊢
 refine pt_ 0 7 1 ?_
 refine pt_ 3 10 9 ?_
 refine pt_ 6 13 73 ?_
 refine tt_ 1 8 75 ?_
 refine tt_ 4 11 91 ?_
 refine oz_ 2 9 9 95 (fun K hK => ?_)
 refine ge_ Try.func22 #[.slice none 0 0, .int .i64 a0_0] ?_
 refine (impl_putNum.calls k (fun k_ => some k_ = (.slice none 0 0 : Value).ownBlock) (.slice none 0 0) ([] : List Int) a0_0 t602 w _ ?side1 ?side2 A3.out).mono ?_
 (case side1 => exact bw_ HB)
 (case side2 => exact Kd.R_nil _ _ _ _ _)
 rintro e w14 ⟨v3, rfl, ho0, hb, hkp⟩
 refine ⟨_, rfl, ?_⟩
 replace BK1 := am_ (blk_kept (kb_ BK1.out) hkp (fun hs_ => (fun e_ => by simp [Value.ownBlock] at e_) hs_))
 have HO4 := am_ (Kd.R_mono (ok' := fun k_ => True) ho0 (fun k_ hk_ => trivial))
 replace HB := am_ hb
 clear hb hkp ho0
 obtain ⟨Ao15, co15, eo15⟩ := Kd.R_slice HO4.out
 (first | subst eo15 | (injection eo15 with f1_ f2_ f3_; have f4_ := f1_.symm; have f5_ := f3_.symm; clear f1_ f2_ f3_; subst f4_; subst f5_))
 refine hK.out _ _ ⟨bc0_ BK1.out, bc1_ BK1.out⟩ (fun hHeld => ?_)
 clear hK K
 refine no_ 9 ?_
 refine oz_ 5 12 9 127 (fun K hK => ?_)
 refine gf_ Try.func24 (impl_putText.calls k (fun k_ => some k_ = (.slice Ao15 t602.length co15 : Value).ownBlock) (.slice Ao15 t602.length co15) t602 a0_1 t5 w _ (bw_ HB) (Kd.R_tight rfl HO4.out) A4.out) ?_
 rintro e w16 ⟨v6, rfl, ho0, hb, hkp⟩
 refine ⟨_, rfl, ?_⟩
 replace BK1 := am_ (blk_kept (kb_ BK1.out) hkp (fun hs_ => (fun e_ => (Kd.R_ne HO4.out BK1.out (by decide)) e_) hs_))
 have HO7 := am_ (Kd.R_mono (ok' := fun k_ => True) ho0 (fun k_ hk_ => trivial))
 replace HB := am_ hb
 clear HO4
 clear hb hkp ho0
 obtain ⟨Ao17, co17, eo17⟩ := Kd.R_slice HO7.out
 (first | subst eo17 | (injection eo17 with f1_ f2_ f3_; have f4_ := f1_.symm; have f5_ := f3_.symm; clear f1_ f2_ f3_; subst f4_; subst f5_))
 refine hK.out _ _ ⟨bc0_ BK1.out, bc1_ BK1.out⟩ (fun hHeld => ?_)
 clear hK K
 refine no_ 12 ?_
 refine oz_ 7 14 9 255 (fun K hK => ?_)
 refine gf_ Try.func23 (impl_putTexts.calls k (fun k_ => some k_ = (.slice Ao17 t5.length co17 : Value).ownBlock) (.slice Ao17 t5.length co17) t5 _ _ l1 t8 w _ (bw_ HB) (Kd.R_tight rfl HO7.out) (Kd.C_kept_came Kd.heap_string HR1.out (bw_ HB) (fun k_ hs_ => (fun e_ => Kd.R_base HO7.out k_ e_.symm) hs_)) HC1.out A5.out) ?_
 rintro e w18 ⟨v9, rfl, ho0, hb, hkp⟩
 refine ⟨_, rfl, ?_⟩
 replace BK1 := am_ (blk_kept (kb_ BK1.out) hkp (fun hs_ => (fun e_ => (Kd.R_ne HO7.out BK1.out (by decide)) e_) hs_))
 have HO10 := am_ (Kd.R_mono (ok' := fun k_ => True) ho0 (fun k_ hk_ => trivial))
 replace HB := am_ hb
 clear HO7
 clear hb hkp ho0
 refine hK.out _ _ ⟨bc0_ BK1.out, bc1_ BK1.out⟩ (fun hHeld => ?_)
 clear hK K
 refine no_ 14 ?_
 refine pt_ 8 5 511 ?_
 refine dn_ ?_
 obtain ⟨Ao19, co19, eo19⟩ := Kd.R_slice HO10.out
 subst eo19
 try go_wp2_with (first | ((with_reducible refine gk_ 22 ?_); refine gl_ 17 Try.func22 #[.slice none 0 0, .int .i64 (t8.length : Int)] ?_; (refine (impl_putNum.calls k (fun k_ => some k_ = (.slice none 0 0 : Value).ownBlock) (.slice none 0 0) ([] : List Int) (t8.length : Int) t11 w _ ?side1 ?side2 A6.out).mono ?_); (case side1 => exact bw_ HB); (case side2 => exact Kd.R_nil _ _ _ _ _); rintro e w20 ⟨v12, rfl, ho0, hb, hkp⟩; refine ⟨_, rfl, ?_⟩; replace BK1 := am_ (blk_kept (kb_ BK1.out) hkp (fun hs_ => (fun e_ => by simp [Value.ownBlock] at e_) hs_)); have HO13 := am_ (Kd.R_mono (ok' := fun k_ => some k_ ≠ (.slice Ao19 t8.length co19 : Value).ownBlock) ho0 (fun k_ hk_ => Or.elim hk_ (fun hs_ => absurd hs_ (by simp [Value.ownBlock])) (fun hn_ => (Kd.fresh' (lt_ HO10) k_ hn_)))); replace HO10 := am_ (Kd.R_mono (ok' := fun k_ => some k_ ≠ (v12 : Value).ownBlock) (Kd.R_keptB (HO10.out) hkp (fun k_ hk_ hs_ => (fun e_ => by simp [Value.ownBlock] at e_) hs_)) (fun k_ hk_ => fun e_ => Or.elim (ho0.1 k_ e_.symm) (fun hs_ => hk_.2.1 hs_) (fun hn_ => Nat.not_le.2 hk_.2.2 hn_))); replace HB := am_ hb; clear hb hkp ho0) | ((with_reducible refine gate_builtin (b := .append) (xs := #[.tmp 17, .tmp 18]) rfl ?_); at_builtin; refine Kd.R_append_rows (Kd.int .u8) (w0 := w) w.heap.size rfl (.tmp 17) (.tmp 18) 22 5 (.int .u8 0) 1 rfl Try.underlying22 info5 rfl (by decide) (by omega) v12 t11 t8 _ _ _ (fun k_ => some k_ ≠ (.slice Ao19 t8.length co19 : Value).ownBlock) (fun _ => False) rfl rfl ?aO ?aR (fun _ _ h => h) (fun _ h => h.elim) ?aF ?aB ?aS ?aL ?_; (case aR => repeat (first | exact (Kd.R_reads' HO10.out).2.2 | (with_reducible refine Kd.C_alloc ?_ _) | (with_reducible refine Kd.C_drewN ?_ _) | (with_reducible refine Kd.C_drew ?_))); (case aB => exact (bw_ HB)); (case aF => exact (fun k_ hk => Kd.fresh' (lt_ HO10) k_ hk)); (case aO => exact (kr_ HO13.out)); (case aS => exact (sz_ HB)); (case aL => have := LMc7.out; omega); intro v15 w21 ho hb hg hat; rw [← Ny14.out] at ho; replace BK1 := kg_ BK1 HO13 hg; replace HO10 := am_ (Kd.R_after (ok := (fun _ => True)) (kr_ (Kd.R_mono HO10.out (fun _ hk => ⟨trivial, hk⟩))) hg hat); replace HB := am_ hb; have HO16 := am_ ho; clear HO13; clear ho hb hg hat) | ((with_reducible refine gq_ 97 22 ?_); refine gc_ 22 Try.func97 (impl_Digest.calls _ _ t8 t17 _ (ch_ HO10) (cl_ HO10) A8.out) ?_; rintro e w22 ⟨rfl, hb⟩; refine ⟨_, rfl, ?_⟩; replace HO10 := rb_ HO10 hb; replace HO16 := rb_ HO16 hb; replace BK1 := kl_ BK1 hb; replace HB := ss_ HB hb; clear hb) | (at_builtin; refine print_append_strR (w0 := w) w.heap.size rfl (.tmp 20) _ 22 9 5 rfl Try.underlying22 Try.underlying9 info5 v15 y14 (t17.extract 0 4) (fun k_ => some k_ ≠ (.slice Ao19 t8.length co19 : Value).ownBlock) rfl rfl ?aF ?aO ?aB ?aS ?aL ?_; (case aB => exact (bw_ HB)); (case aF => exact (fun k_ hk => Kd.fresh' (lt_ HO10) k_ hk)); (case aO => exact (kr_ HO16.out)); (case aS => exact (sz_ HB)); (case aL => have := LMc11.out; omega); intro v19 w23 ho hb hg hat; rw [← Ny18.out] at ho; replace BK1 := kg_ BK1 HO16 hg; replace HO10 := am_ (Kd.R_after (ok := (fun _ => True)) (kr_ HO10.out) hg hat); replace HB := am_ hb; have HO20 := am_ ho; clear HO16; clear ho hb hg hat))
 go_ret
 exact ⟨_, e2_, km_ HO20, bw_ HB⟩
def impl_PutCommit.f (k : Nat) (a0_0 : Int) (a0_1 : ByteArray) (l1 : List ByteArray) : Option (List Int) := (impl_HeadOk.f a0_0 a0_1).bind fun t602 => (if t602 = true then ((impl_inRange.f (l1.length : Int) 1 200).bind fun t3 => (if t3 = true then ((impl_putCommit.f k a0_0 a0_1 l1).bind fun t4 => (some t4)) else (some ([] : List Int)))) else (some ([] : List Int)))
theorem impl_PutCommit.calls (k : Nat) (a0_0 : Int) (a0_1 : ByteArray) (A1 : Option Addr) (c1 : Nat) (l1 : List ByteArray) (r : List Int) (w : World) (hr1 : Kd.C Kd.string w A1 l1.length l1) (hc1 : l1.length ≤ c1) (h : impl_PutCommit.f k a0_0 a0_1 l1 = some r) :
  Calls Try.prog 71 #[.agg #[.int .i64 a0_0, .string a0_1], .slice A1 l1.length c1] w fun e w' => ∃ v0_ : Value, e = .returned (v0_) ∧ Kd.R (Kd.int .u8) 5 w' w.heap.size (fun _ => True) v0_ r ∧ Below w.heap.size w w' := by
 have hu25 := Try.underlying25
 have HR1 := am_ hr1
 have HC1 := am_ hc1
 clear hr1 hc1
 have HB := h0_ w
 have H : ((impl_HeadOk.f a0_0 a0_1).bind fun t602 => (if t602 = true then ((impl_inRange.f (l1.length : Int) 1 200).bind fun t3 => (if t3 = true then ((impl_putCommit.f k a0_0 a0_1 l1).bind fun t4 => (some t4)) else (some ([] : List Int)))) else (some ([] : List Int)))) = some r := h
 clear h
 replace H := bi_ H; obtain ⟨t602, A3, H⟩ := H
 replace H := itb_ H; obtain ⟨rfl, H⟩ | ⟨rfl, H⟩ := H
 ·replace H := bi_ H; obtain ⟨t3, A5, H⟩ := H
  replace H := itb_ H; obtain ⟨rfl, H⟩ | ⟨rfl, H⟩ := H
  ·replace H := bi_ H; obtain ⟨t4, A7, H⟩ := H
   obtain rfl := Option.some.inj H
   go_enter Try.func71, Try.ntmps71
   go_wp2_with (first | ((with_reducible refine gd_ 2 ?_); (try (refine gate_guard (by rfl) ?_; dsimp only)); refine bx_ 2 25 #[.int .i64 a0_0, .string a0_1] (hx_ HB ?_); clear HB; intro gb1 w8 BK1 GW1 HB; have GE1 := GW1; have hz9 := cz2_ BK1) | ((with_reducible refine gq_ 39 6 ?_); refine gc_ 6 Try.func39 (impl_HeadOk.calls a0_0 a0_1 true _ A3.out) ?_; rintro e w10 ⟨rfl, hb⟩; refine ⟨_, rfl, ?_⟩; replace BK1 := kl_ BK1 hb; replace HB := ss_ HB hb; clear hb) | (go_at_call 40; (with_reducible refine (impl_inRange.calls (l1.length : Int) 1 200 true _ A5.out).mono ?_); rintro e w' ⟨rfl, ⟨nd, rfl⟩⟩; have hz11 := cz2_ BK1) | ((with_reducible refine gq_ 89 16 ?_); refine gc_ 16 Try.func89 (impl_putCommit.calls k a0_0 a0_1 _ _ l1 t4 _ (cr_ (Kd.C_below HR1.out (bw_ HB))) HC1.out A7.out) ?_; rintro e w12 ⟨v5, rfl, ho0, hb⟩; refine ⟨_, rfl, ?_⟩; have HO6 := rlo_ ho0 HB; replace BK1 := kl_ BK1 hb; replace HB := ss_ HB hb; clear hb ho0))
   go_ret
   exact ⟨_, e2_, kr_ HO6.out, bw_ HB⟩
  ·obtain rfl := Option.some.inj H
   go_enter Try.func71, Try.ntmps71
   go_wp2_with (first | ((with_reducible refine gd_ 2 ?_); (try (refine gate_guard (by rfl) ?_; dsimp only)); refine bx_ 2 25 #[.int .i64 a0_0, .string a0_1] (hx_ HB ?_); clear HB; intro gb1 w13 BK1 GW1 HB; have GE1 := GW1; have hz14 := cz2_ BK1) | ((with_reducible refine gq_ 39 6 ?_); refine gc_ 6 Try.func39 (impl_HeadOk.calls a0_0 a0_1 true _ A3.out) ?_; rintro e w15 ⟨rfl, hb⟩; refine ⟨_, rfl, ?_⟩; replace BK1 := kl_ BK1 hb; replace HB := ss_ HB hb; clear hb) | (go_at_call 40; (with_reducible refine (impl_inRange.calls (l1.length : Int) 1 200 false _ A5.out).mono ?_); rintro e w' ⟨rfl, ⟨nd, rfl⟩⟩))
   go_ret
   exact ⟨_, e2_, nil_, bw_ HB⟩
 ·obtain rfl := Option.some.inj H
  go_enter Try.func71, Try.ntmps71
  go_wp2_with (first | ((with_reducible refine gd_ 2 ?_); (try (refine gate_guard (by rfl) ?_; dsimp only)); refine bx_ 2 25 #[.int .i64 a0_0, .string a0_1] (hx_ HB ?_); clear HB; intro gb1 w16 BK1 GW1 HB; have GE1 := GW1; have hz17 := cz2_ BK1) | ((with_reducible refine gq_ 39 6 ?_); refine gc_ 6 Try.func39 (impl_HeadOk.calls a0_0 a0_1 false _ A3.out) ?_; rintro e w18 ⟨rfl, hb⟩; refine ⟨_, rfl, ?_⟩; replace BK1 := kl_ BK1 hb; replace HB := ss_ HB hb; clear hb))
  go_ret
  exact ⟨_, e2_, nil_, bw_ HB⟩
end Go.Proofs.Ytnlndmoecljicaa.Q
end
