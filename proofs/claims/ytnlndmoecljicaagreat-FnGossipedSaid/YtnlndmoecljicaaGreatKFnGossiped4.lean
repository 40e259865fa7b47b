-- Joined and shortened by a program of this session (wip/tools/shakecopy.py): the words of the print, texts of pp.sh and of mine.
import Derived.Test.YtnlndmoecljicaaGreatKFnGossiped3
import Derived.RangeFuncNested
import Derived.RangeFuncBound
import Derived.RangeFuncCalls
import Derived.RangeFuncLeaves
import Derived.Shelf.Abstract
import Derived.Shelf.RegionOpen
import Derived.WalkKit
import Derived.OwnWalkIn
import Derived.TacticsInMore
import Derived.LoopNIn
import Derived.LoopIn
import Derived.WalkLawsBesides
import Derived.IntWalk
import Derived.RegionIn
import Derived.Outline
set_option linter.unusedVariables false
set_option linter.unusedSimpArgs false
section
namespace Go.Proofs.YtnlndmoecljicaaGreat.Q
open Go.Proofs.YtnlndmoecljicaaGreatW.PrintLast Go.Proofs.YtnlndmoecljicaaGreatW.PrintMore Go.Proofs.YtnlndmoecljicaaGreatW.PrintWords Go.RowKit
attribute [local go_sem] max2_int min2_int max_two min_two max_three min_three max_four min_four
set_option maxHeartbeats 8000000
set_option maxRecDepth 100000
theorem bs4_ {w w1 w2 : World} {g1 g2 g3 g4 : Nat} (h : Aside0 (Below w.heap.size w w1)) (e1 : w.heap.size ≤ g1) (e2 : w.heap.size ≤ g2) (e3 : w.heap.size ≤ g3) (e4 : w.heap.size ≤ g4) (g : Below w.heap.size w w1 → w.heap.size ≤ g1 → w.heap.size ≤ g2 → w.heap.size ≤ g3 → w.heap.size ≤ g4 → Below w.heap.size w w2 := by intro h_ e1_ e2_ e3_ e4_; repeat (first | (with_reducible first | exact h_ | apply below_alloc | apply pw_below_drewN | apply below_drew1 | refine below_set ?_ e1_ | refine below_set ?_ e2_ | refine below_set ?_ e3_ | refine below_set ?_ e4_) | exact h_)) : Below w.heap.size w w2 := g h.out e1 e2 e3 e4
def spec_l14Draw.f (k : Nat) (s0_0 : List Int) (s0_1 : Int) (s0_2 : Int) : Option (Int × List ByteArray × Int × ByteArray × List Int × Int × Int × ByteArray × (List (S37)) × List ByteArray × Int × Int) := (spec_l12Draw.f k s0_0 s0_1 s0_2).bind fun bt2 => ((spec_l1Below.f s0_0 bt2.2.2.2.2.2.2.2.1 bt2.2.2.2.2.2.2.2.2 4).bind fun bt20 => ((spec_l1Once.f s0_0 bt20.2.1 bt20.2.2 2).bind fun bt24 => (if bt24.1 = true then ((spec_BestHead.f k bt2.2.2.2.2.2.2.1).bind fun bt27 => (some (bt20.1, bt2.1, bt2.2.1, bt2.2.2.1, bt2.2.2.2.1, bt2.2.2.2.2.1, bt27.1, bt27.2, bt2.2.2.2.2.2.2.1, bt2.2.2.2.2.2.1, bt24.2.1, bt24.2.2))) else (some (bt20.1, bt2.1, bt2.2.1, bt2.2.2.1, bt2.2.2.2.1, bt2.2.2.2.2.1, bt2.2.1, bt2.2.2.1, bt2.2.2.2.2.2.2.1, bt2.2.2.2.2.2.1, bt24.2.1, bt24.2.2)))))
def spec_l14Draw.T2 : Bool × List (List Nat × List Nat) := (true, [([], []), ([0], [0]), ([], []), ([], []), ([3], [3]), ([4], [4]), ([1, 2, 5], [1, 2, 5]), ([], []), ([7, 6, 1, 0, 1, 2, 3, 4, 5, 6, 7], [6, 7])])
def spec_l14Draw.B2 : List Nat := [0, 1, 0, 0, 8, 24, 63, 0, 255]
theorem spec_l14Draw.tab2 : rtab .any (opsOf Tryz.f86 2) = spec_l14Draw.T2 := by kernel_rfl
theorem spec_l14Draw.bits2 : waitsOk spec_l14Draw.T2.2 spec_l14Draw.B2 = true := by kernel_rfl
theorem spec_l14Draw.calls (k : Nat) (g : Nat) (s0_0 : List Int) (s0_1 : Int) (s0_2 : Int) (r1 : Int) (r2 : List ByteArray) (r3 : Int) (r4 : ByteArray) (r5 : List Int) (r6 : Int) (r7 : Int) (r8 : ByteArray) (r9 : List (S37)) (r10 : List ByteArray) (r11 : Int) (r12 : Int) (w0 w : World) (hI : IsS105 w0 w g s0_0 s0_1 s0_2) (hB : Below w0.heap.size w0 w) (h : spec_l14Draw.f k s0_0 s0_1 s0_2 = some (r1, r2, r3, r4, r5, r6, r7, r8, r9, r10, r11, r12)) :
  Calls Tryz.prog 86 #[.pointer (some ⟨g, 0, none⟩)] w fun e w' => ∃ v1_ v4_ v8_ v9_ : Value, e = .returned (.tuple #[.agg #[.int .i64 r1, v1_, .int .i64 r3, .string r4, v4_, .int .i64 r6, .int .i64 r7, .string r8], v8_, v9_]) ∧ Kd.R Kd.string 9 w' w.heap.size (fun k_ => some k_ ≠ (v9_ : Value).ownBlock) v1_ r2 ∧ Kd.R (Kd.int .u8) 5 w' w.heap.size (fun _ => True) v4_ r5 ∧ Kd.R k37 37 w' w.heap.size (fun _ => True) v8_ r9 ∧ Kd.R Kd.string 9 w' w.heap.size (fun k_ => some k_ ≠ (v1_ : Value).ownBlock) v9_ r10 ∧ IsS105 w0 w' g s0_0 r11 r12 ∧ Below w0.heap.size w0 w' ∧ KeepBut w w' g none := by
 have hu43 := Tryz.underlying43
 have hu41 := Tryz.underlying41
 have hu37 := Tryz.underlying37
 have HI0 := am_ hI
 have HK := am_ (KeepBut.refl w g none)
 have HL := am_ hB.size
 clear hI
 have HW0 := am_ hB.size
 have HB := am_ hB
 clear hB
 have H : ((spec_l12Draw.f k s0_0 s0_1 s0_2).bind fun bt2 => ((spec_l1Below.f s0_0 bt2.2.2.2.2.2.2.2.1 bt2.2.2.2.2.2.2.2.2 4).bind fun bt20 => ((spec_l1Once.f s0_0 bt20.2.1 bt20.2.2 2).bind fun bt24 => (if bt24.1 = true then ((spec_BestHead.f k bt2.2.2.2.2.2.2.1).bind fun bt27 => (some (bt20.1, bt2.1, bt2.2.1, bt2.2.2.1, bt2.2.2.2.1, bt2.2.2.2.2.1, bt27.1, bt27.2, bt2.2.2.2.2.2.2.1, bt2.2.2.2.2.2.1, bt24.2.1, bt24.2.2))) else (some (bt20.1, bt2.1, bt2.2.1, bt2.2.2.1, bt2.2.2.2.1, bt2.2.2.2.2.1, bt2.2.1, bt2.2.2.1, bt2.2.2.2.2.2.2.1, bt2.2.2.2.2.2.1, bt24.2.1, bt24.2.2)))))) = some (r1, r2, r3, r4, r5, r6, r7, r8, r9, r10, r11, r12) := h
 clear h
 replace H := bi_ H; obtain ⟨⟨t602, t5, t6, t7, t10, t11, t14, t17, t18⟩, A2, H⟩ := H
 dsimp only at H
 replace H := bi_ H; obtain ⟨⟨t20, t21, t22⟩, A3, H⟩ := H
 dsimp only at H
 replace H := bi_ H; obtain ⟨⟨t24, t25, t26⟩, A4, H⟩ := H
 dsimp only at H
 go_enter Tryz.func86, Tryz.ntmps86
 try go_wp2_with (first | ((with_reducible refine gd_ 2 ?_); refine x43_ 2 ?_; intro gb1 hg w7 hbox hb; replace HB := am_ (below_step (bs1_ HB (IsS105.ge HI0.out)) hb); have BK1 := am_ hbox; have GW1 := gw_ hg HK; have GE1 := am_ (Nat.le_trans HW0.out (gw_ hg HK).out); replace HK := am_ (KeepBut.trans (kn_ HK) (KeepBut.of_below hb g none) (.inl rfl)); have NB0_1 := am_ ((by rw [hg]; exact Nat.ne_of_lt (IsS105.lt (show IsS105 w0 _ g s0_0 s0_1 s0_2 from in105_ HI0)) : g ≠ gb1)); have NB1_0 := am_ ((by rw [hg]; exact Nat.ne_of_gt (IsS105.lt (show IsS105 w0 _ g s0_0 s0_1 s0_2 from in105_ HI0)) : gb1 ≠ g)); replace HI0 := am_ (IsS105.below (in105_ HI0) hb); clear hb hbox hg) | ((with_reducible refine gq_ 113 11 ?_); refine gc_ 11 Tryz.func113 (spec_l12Draw.calls k g s0_0 s0_1 s0_2 t602 t5 t6 t7 t10 t11 t14 t17 t18 w0 _ (in105_ HI0) (bi105_ HB) A2.out) ?_; rintro e w8 ⟨v3, v8, v12, v15, rfl, ho0, ho1, ho2, ho3, hi, hb, hk⟩; refine ⟨_, rfl, ?_⟩; replace BK1 := kbk_ hk (kb_ BK1.out) NB1_0; have HO4 := am_ (Kd.R_lower ho0 (keep_size (w := w) (g := g) (row := none) (kn_ HK))); have HO9 := am_ (Kd.R_lower ho1 (keep_size (w := w) (g := g) (row := none) (kn_ HK))); have HO13 := am_ (Kd.R_lower ho2 (keep_size (w := w) (g := g) (row := none) (kn_ HK))); have HO16 := am_ (Kd.R_lower ho3 (keep_size (w := w) (g := g) (row := none) (kn_ HK))); replace HK := ktr_ HK hk; replace HB := am_ hb; replace HI0 := am_ hi; clear hb hk hi ho0 ho1 ho2 ho3) | ((with_reducible refine gd_ 5 ?_); refine x41_ 5 ?_; intro gb19 hg w9 hbox hb; replace HO4 := rb_ HO4 hb; replace HO9 := rb_ HO9 hb; replace HO13 := rb_ HO13 hb; replace HO16 := rb_ HO16 hb; replace HB := am_ (below_step (bs2_ HB (IsS105.ge HI0.out) GE1.out) hb); have BK19 := am_ hbox; have GW19 := gw_ hg HK; have GE19 := am_ (Nat.le_trans HW0.out (gw_ hg HK).out); replace HK := am_ (KeepBut.trans (kn_ HK) (KeepBut.of_below hb g none) (.inl rfl)); have NB1_19 := nla_ hg BK1; have NB19_1 := nga_ hg BK1; replace BK1 := kl_ BK1 hb; have NB0_19 := am_ ((by rw [hg]; exact Nat.ne_of_lt (IsS105.lt (show IsS105 w0 _ g s0_0 t17 t18 from in105_ HI0)) : g ≠ gb19)); have NB19_0 := am_ ((by rw [hg]; exact Nat.ne_of_gt (IsS105.lt (show IsS105 w0 _ g s0_0 t17 t18 from in105_ HI0)) : gb19 ≠ g)); replace HI0 := am_ (IsS105.below (in105_ HI0) hb); clear hb hbox hg; obtain ⟨Ao10, co10, eo10⟩ := Kd.R_slice HO4.out; subst eo10; have hnb11 := NB19_1.out; have hnc11 := NB1_19.out; have hnb12 := NB19_0.out; have hnc12 := NB0_19.out; have hz13 := cz5_ BK19; obtain ⟨Ao14, co14, eo14⟩ := Kd.R_slice HO9.out; subst eo14))
 obtain ⟨w15, hw_⟩ : ∃ w_ : World, w_ = (((((w9.setCell ⟨gb19, 0, none⟩ (.slice Ao10 t602.length co10)).setCell ⟨gb19, 1, none⟩ (.int .i64 t5)).setCell ⟨gb19, 2, none⟩ (.string t6)).setCell ⟨gb19, 3, none⟩ (.slice Ao14 t7.length co14)).setCell ⟨gb19, 4, none⟩ (.int .i64 t10)) := ⟨_, rfl⟩
 replace HO4 : Aside0 (Kd.R Kd.string 9 w15 w.heap.size (fun k_ => some k_ ≠ (v12 : Value).ownBlock) (.slice Ao10 t602.length co10) t602) := ⟨by rw [hw_]; exact kfm_ HO4 BK19⟩
 replace HO9 : Aside0 (Kd.R (Kd.int .u8) 5 w15 w.heap.size (fun _ => True) (.slice Ao14 t7.length co14) t7) := ⟨by rw [hw_]; exact kfm_ HO9 BK19⟩
 replace HO13 : Aside0 (Kd.R Kd.string 9 w15 w.heap.size (fun k_ => some k_ ≠ (.slice Ao10 t602.length co10 : Value).ownBlock) v12 t11) := ⟨by rw [hw_]; exact kfm_ HO13 BK19⟩
 replace HO16 : Aside0 (Kd.R k37 37 w15 w.heap.size (fun _ => True) v15 t14) := ⟨by rw [hw_]; exact kfm_ HO16 BK19⟩
 replace BK1 : Aside0 (w15.heap[gb1]? = some (.cells #[.int .i64 0, .slice none 0 0, .int .i64 0, .string (⟨#[]⟩ : ByteArray), .slice none 0 0, .int .i64 0, .int .i64 0, .string (⟨#[]⟩ : ByteArray)] 43 (0, 0))) := ⟨by rw [hw_]; exact kq_ BK1⟩
 replace BK19 : Aside0 (w15.heap[gb19]? = some (.cells #[.slice Ao10 t602.length co10, .int .i64 t5, .string t6, .slice Ao14 t7.length co14, .int .i64 t10] 41 (0, 0))) := ⟨by rw [hw_]; exact kq_ BK19⟩
 replace HI0 : Aside0 (IsS105 w0 w15 g s0_0 t17 t18) := ⟨by rw [hw_]; exact in105_ HI0⟩
 replace HK : Aside0 (KeepBut w w15 g none) := ⟨by rw [hw_]; exact kn_ HK⟩
 replace HB : Aside0 (Below w0.heap.size w0 w15) := ⟨by rw [hw_]; exact bi105_ HB⟩
 rw [← hw_]
 clear hw_
 replace HO4 := am_ (Kd.R_drew HO4.out)
 replace HO9 := am_ (Kd.R_drew HO9.out)
 replace HO13 := am_ (Kd.R_drew HO13.out)
 replace HO16 := am_ (Kd.R_drew HO16.out)
 replace BK1 := bd_ BK1
 replace BK19 := bd_ BK19
 replace HI0 := am_ (IsS105.drew HI0.out)
 replace HK := am_ (keep_drew HK.out)
 replace HB := hd_ HB
 refine sw_ 9 (fun w' => w'.cell? ⟨gb19, 0, none⟩ = some (.slice Ao10 t602.length co10) ∧ w'.cell? ⟨gb19, 1, none⟩ = some (.int .i64 t5) ∧ w'.cell? ⟨gb19, 2, none⟩ = some (.string t6) ∧ w'.cell? ⟨gb19, 3, none⟩ = some (.slice Ao14 t7.length co14) ∧ w'.cell? ⟨gb19, 4, none⟩ = some (.int .i64 t10)) [] spec_l14Draw.tab2 spec_l14Draw.bits2 ⟨bc0_ BK19.out, bc1_ BK19.out, bc2_ BK19.out, bc3_ BK19.out, bc4_ BK19.out⟩ (fun hHeld HT_ HW_ => ?_)
 generalize w15.drew = w16 at HO4 HO9 HO13 HO16 BK1 BK19 HI0 HK HB hHeld ⊢
 refine pt_ 0 15 1 ?_
 refine pt_ 3 18 9 ?_
 refine pt_ 4 19 25 ?_
 refine tt_ 2 17 29 ?_
 refine tt_ 5 20 61 ?_
 refine join_ (σ := Nat) 1 (lz_ 9 255) (fun s_ => [(16, .int .i64 t20), (8, .pointer (some ⟨s_, 0, none⟩)), (21, .agg #[.int .i64 t20, .slice Ao10 t602.length co10, .int .i64 t5, .string t6, .slice Ao14 t7.length co14, .int .i64 t10, .int .i64 t5, .string t6])]) (fun s_ w' => (w'.cell? ⟨gb19, 0, none⟩ = some (.slice Ao10 t602.length co10) ∧ w'.cell? ⟨gb19, 1, none⟩ = some (.int .i64 t5) ∧ w'.cell? ⟨gb19, 2, none⟩ = some (.string t6) ∧ w'.cell? ⟨gb19, 3, none⟩ = some (.slice Ao14 t7.length co14) ∧ w'.cell? ⟨gb19, 4, none⟩ = some (.int .i64 t10)) ∧ (Kd.R Kd.string 9 w' w.heap.size (fun k_ => some k_ ≠ (v12 : Value).ownBlock) (.slice Ao10 t602.length co10) t602) ∧ (Kd.R (Kd.int .u8) 5 w' w.heap.size (fun _ => True) (.slice Ao14 t7.length co14) t7) ∧ (Kd.R Kd.string 9 w' w.heap.size (fun k_ => some k_ ≠ (.slice Ao10 t602.length co10 : Value).ownBlock) v12 t11) ∧ (Kd.R k37 37 w' w.heap.size (fun _ => True) v15 t14) ∧ (w'.heap[gb1]? = some (.cells #[.int .i64 0, .slice none 0 0, .int .i64 0, .string (⟨#[]⟩ : ByteArray), .slice none 0 0, .int .i64 0, .int .i64 0, .string (⟨#[]⟩ : ByteArray)] 43 (0, 0))) ∧ (w'.heap[gb19]? = some (.cells #[.slice Ao10 t602.length co10, .int .i64 t5, .string t6, .slice Ao14 t7.length co14, .int .i64 t10] 41 (0, 0))) ∧ (w'.heap[s_]? = some (.cells #[.int .i64 0, .slice none 0 0, .int .i64 0, .string (⟨#[]⟩ : ByteArray), .slice none 0 0, .int .i64 0, .int .i64 0, .string (⟨#[]⟩ : ByteArray)] 43 (0, 0))) ∧ (w.heap.size ≤ s_) ∧ (w0.heap.size ≤ s_) ∧ (g ≠ s_) ∧ (s_ ≠ g) ∧ (gb1 ≠ s_) ∧ (s_ ≠ gb1) ∧ (gb19 ≠ s_) ∧ (s_ ≠ gb19) ∧ (IsS105 w0 w' g s0_0 t21 t22) ∧ (KeepBut w w' g none) ∧ (Below w0.heap.size w0 w')) ?_ ?_
 rotate_left
 ·intro hCont
  refine two_ (i := 1) (j := 7) (Ni := some 16) (Nj := some 8) (lz_ 9 63) (lz_ 9 189) rfl rfl rfl rfl (two_of HT_.out (by kernel_rfl)) (by decide) (by decide) (fun K hK => ?_) (fun K hK => ?_)
  ·skip
   refine gf_ Tryz.func87 (spec_l1Below.calls g s0_0 t17 t18 4 t20 t21 t22 w0 _ (in105_ HI0) (bi105_ HB) A3.out) ?_
   rintro e w17 ⟨rfl, hi, hb, hk⟩
   refine ⟨_, rfl, ?_⟩
   replace BK1 := kbk_ hk (kb_ BK1.out) NB1_0
   have i_ := iw105_ hk (show IsS105 w0 _ g s0_0 t17 t18 from in105_ HI0)
   replace HO4 := rat105_ i_ (kr_ HO4.out) hk
   replace HO9 := rat105_ i_ (kr_ HO9.out) hk
   replace HO13 := rat105_ i_ (kr_ HO13.out) hk
   replace HO16 := rat105_ i_ (kr_ HO16.out) hk
   clear i_
   replace BK19 := kbk_ hk (kb_ BK19.out) NB19_0
   replace HK := ktr_ HK hk
   replace HB := am_ hb
   replace HI0 := am_ hi
   clear hb hk hi
   refine hK.out _ _ ⟨bc0_ BK19.out, bc1_ BK19.out, bc2_ BK19.out, bc3_ BK19.out, bc4_ BK19.out⟩ (fun hHeld => ?_)
   clear hK K
   refine no_ 16 ?_
   refine pt_ 6 21 127 ?_
   refine oz_ 7 8 9 255 (fun K hK => ?_)
   refine bz_ 8 43 #[.int .i64 0, .slice none 0 0, .int .i64 0, .string (⟨#[]⟩ : ByteArray), .slice none 0 0, .int .i64 0, .int .i64 0, .string (⟨#[]⟩ : ByteArray)] ?_
   intro gb23 hg w18 hbox hb
   replace HO4 := rb_ HO4 hb
   replace HO9 := rb_ HO9 hb
   replace HO13 := rb_ HO13 hb
   replace HO16 := rb_ HO16 hb
   replace HB := am_ (below_step (bs3_ HB (IsS105.ge HI0.out) GE1.out GE19.out) hb)
   have BK23 := am_ hbox
   have GW23 := gw_ hg HK
   have GE23 := am_ (Nat.le_trans HW0.out (gw_ hg HK).out)
   replace HK := am_ (KeepBut.trans (kn_ HK) (KeepBut.of_below hb g none) (.inl rfl))
   have NB1_23 := nla_ hg BK1
   have NB23_1 := nga_ hg BK1
   replace BK1 := kl_ BK1 hb
   have NB19_23 := nla_ hg BK19
   have NB23_19 := nga_ hg BK19
   replace BK19 := kl_ BK19 hb
   have NB0_23 := am_ ((by rw [hg]; exact Nat.ne_of_lt (IsS105.lt (show IsS105 w0 _ g s0_0 t21 t22 from in105_ HI0)) : g ≠ gb23))
   have NB23_0 := am_ ((by rw [hg]; exact Nat.ne_of_gt (IsS105.lt (show IsS105 w0 _ g s0_0 t21 t22 from in105_ HI0)) : gb23 ≠ g))
   replace HI0 := am_ (IsS105.below (in105_ HI0) hb)
   clear hb hbox hg
   refine hK.out _ _ ⟨bc0_ BK19.out, bc1_ BK19.out, bc2_ BK19.out, bc3_ BK19.out, bc4_ BK19.out⟩ (fun hHeld => ?_)
   clear hK K
   refine no_ 8 ?_
   exact norm_ (by simp only [putAll, Act.put, List.setIfInBounds_toArray, List.set_cons_zero, List.set_cons_succ]) (hCont (gb23) _ ⟨hHeld, (kr_ HO4.out), (kr_ HO9.out), (kr_ HO13.out), (kr_ HO16.out), (kb_ BK1.out), (kb_ BK19.out), (kb_ BK23.out), GW23.out, GE23.out, NB0_23.out, NB23_0.out, NB1_23.out, NB23_1.out, NB19_23.out, NB23_19.out, (in105_ HI0), (kn_ HK), (bs4_ HB (IsS105.ge HI0.out) GE1.out GE19.out GE23.out)⟩)
  ·skip
   refine bz_ 8 43 #[.int .i64 0, .slice none 0 0, .int .i64 0, .string (⟨#[]⟩ : ByteArray), .slice none 0 0, .int .i64 0, .int .i64 0, .string (⟨#[]⟩ : ByteArray)] ?_
   intro gb23 hg w17 hbox hb
   replace HO4 := rb_ HO4 hb
   replace HO9 := rb_ HO9 hb
   replace HO13 := rb_ HO13 hb
   replace HO16 := rb_ HO16 hb
   replace HB := am_ (below_step (bs3_ HB (IsS105.ge HI0.out) GE1.out GE19.out) hb)
   have BK23 := am_ hbox
   have GW23 := gw_ hg HK
   have GE23 := am_ (Nat.le_trans HW0.out (gw_ hg HK).out)
   replace HK := am_ (KeepBut.trans (kn_ HK) (KeepBut.of_below hb g none) (.inl rfl))
   have NB1_23 := nla_ hg BK1
   have NB23_1 := nga_ hg BK1
   replace BK1 := kl_ BK1 hb
   have NB19_23 := nla_ hg BK19
   have NB23_19 := nga_ hg BK19
   replace BK19 := kl_ BK19 hb
   have NB0_23 := am_ ((by rw [hg]; exact Nat.ne_of_lt (IsS105.lt (show IsS105 w0 _ g s0_0 t17 t18 from in105_ HI0)) : g ≠ gb23))
   have NB23_0 := am_ ((by rw [hg]; exact Nat.ne_of_gt (IsS105.lt (show IsS105 w0 _ g s0_0 t17 t18 from in105_ HI0)) : gb23 ≠ g))
   replace HI0 := am_ (IsS105.below (in105_ HI0) hb)
   clear hb hbox hg
   refine hK.out _ _ ⟨bc0_ BK19.out, bc1_ BK19.out, bc2_ BK19.out, bc3_ BK19.out, bc4_ BK19.out⟩ (fun hHeld => ?_)
   clear hK K
   refine no_ 8 ?_
   refine oz_ 1 16 9 191 (fun K hK => ?_)
   refine gf_ Tryz.func87 (spec_l1Below.calls g s0_0 t17 t18 4 t20 t21 t22 w0 _ (in105_ HI0) (bi105_ HB) A3.out) ?_
   rintro e w18 ⟨rfl, hi, hb, hk⟩
   refine ⟨_, rfl, ?_⟩
   replace BK1 := kbk_ hk (kb_ BK1.out) NB1_0
   have i_ := iw105_ hk (show IsS105 w0 _ g s0_0 t17 t18 from in105_ HI0)
   replace HO4 := rat105_ i_ (kr_ HO4.out) hk
   replace HO9 := rat105_ i_ (kr_ HO9.out) hk
   replace HO13 := rat105_ i_ (kr_ HO13.out) hk
   replace HO16 := rat105_ i_ (kr_ HO16.out) hk
   clear i_
   replace BK19 := kbk_ hk (kb_ BK19.out) NB19_0
   replace BK23 := kbk_ hk (kb_ BK23.out) NB23_0
   replace HK := ktr_ HK hk
   replace HB := am_ hb
   replace HI0 := am_ hi
   clear hb hk hi
   refine hK.out _ _ ⟨bc0_ BK19.out, bc1_ BK19.out, bc2_ BK19.out, bc3_ BK19.out, bc4_ BK19.out⟩ (fun hHeld => ?_)
   clear hK K
   refine no_ 16 ?_
   refine pt_ 6 21 255 ?_
   exact norm_ (by simp only [putAll, Act.put, List.setIfInBounds_toArray, List.set_cons_zero, List.set_cons_succ]) (hCont (gb23) _ ⟨hHeld, (kr_ HO4.out), (kr_ HO9.out), (kr_ HO13.out), (kr_ HO16.out), (kb_ BK1.out), (kb_ BK19.out), (kb_ BK23.out), GW23.out, GE23.out, NB0_23.out, NB23_0.out, NB1_23.out, NB23_1.out, NB19_23.out, NB23_19.out, (in105_ HI0), (kn_ HK), (bs4_ HB (IsS105.ge HI0.out) GE1.out GE19.out GE23.out)⟩)
 rintro gb23 w19 ⟨hS_, h0_, h1_, h2_, h3_, h4_, h5_, h6_, h7_, h8_, h9_, h10_, h11_, h12_, h13_, h14_, h15_, h16_, h17_⟩
 have n0_ : Aside0 (Kd.R Kd.string 9 w19 w.heap.size (fun k_ => some k_ ≠ (v12 : Value).ownBlock) (.slice Ao10 t602.length co10) t602) := ⟨h0_⟩
 have n1_ : Aside0 (Kd.R (Kd.int .u8) 5 w19 w.heap.size (fun _ => True) (.slice Ao14 t7.length co14) t7) := ⟨h1_⟩
 have n2_ : Aside0 (Kd.R Kd.string 9 w19 w.heap.size (fun k_ => some k_ ≠ (.slice Ao10 t602.length co10 : Value).ownBlock) v12 t11) := ⟨h2_⟩
 have n3_ : Aside0 (Kd.R k37 37 w19 w.heap.size (fun _ => True) v15 t14) := ⟨h3_⟩
 have n4_ : Aside0 (w19.heap[gb1]? = some (.cells #[.int .i64 0, .slice none 0 0, .int .i64 0, .string (⟨#[]⟩ : ByteArray), .slice none 0 0, .int .i64 0, .int .i64 0, .string (⟨#[]⟩ : ByteArray)] 43 (0, 0))) := ⟨h4_⟩
 have n5_ : Aside0 (w19.heap[gb19]? = some (.cells #[.slice Ao10 t602.length co10, .int .i64 t5, .string t6, .slice Ao14 t7.length co14, .int .i64 t10] 41 (0, 0))) := ⟨h5_⟩
 have n6_ : Aside0 (w19.heap[gb23]? = some (.cells #[.int .i64 0, .slice none 0 0, .int .i64 0, .string (⟨#[]⟩ : ByteArray), .slice none 0 0, .int .i64 0, .int .i64 0, .string (⟨#[]⟩ : ByteArray)] 43 (0, 0))) := ⟨h6_⟩
 have n7_ : Aside0 (w.heap.size ≤ gb23) := ⟨h7_⟩
 have n8_ : Aside0 (w0.heap.size ≤ gb23) := ⟨h8_⟩
 have n9_ : Aside0 (g ≠ gb23) := ⟨h9_⟩
 have n10_ : Aside0 (gb23 ≠ g) := ⟨h10_⟩
 have n11_ : Aside0 (gb1 ≠ gb23) := ⟨h11_⟩
 have n12_ : Aside0 (gb23 ≠ gb1) := ⟨h12_⟩
 have n13_ : Aside0 (gb19 ≠ gb23) := ⟨h13_⟩
 have n14_ : Aside0 (gb23 ≠ gb19) := ⟨h14_⟩
 have n15_ : Aside0 (IsS105 w0 w19 g s0_0 t21 t22) := ⟨h15_⟩
 have n16_ : Aside0 (KeepBut w w19 g none) := ⟨h16_⟩
 have n17_ : Aside0 (Below w0.heap.size w0 w19) := ⟨h17_⟩
 clear HO4
 clear HO9
 clear HO13
 clear HO16
 clear BK1
 clear BK19
 clear HI0
 clear HK
 clear HB
 clear h0_ h1_ h2_ h3_ h4_ h5_ h6_ h7_ h8_ h9_ h10_ h11_ h12_ h13_ h14_ h15_ h16_ h17_
 have HO4 := n0_
 have HO9 := n1_
 have HO13 := n2_
 have HO16 := n3_
 have BK1 := n4_
 have BK19 := n5_
 have BK23 := n6_
 have GW23 := n7_
 have GE23 := n8_
 have NB0_23 := n9_
 have NB23_0 := n10_
 have NB1_23 := n11_
 have NB23_1 := n12_
 have NB19_23 := n13_
 have NB23_19 := n14_
 have HI0 := n15_
 have HK := n16_
 have HB := n17_
 clear n0_ n1_ n2_ n3_ n4_ n5_ n6_ n7_ n8_ n9_ n10_ n11_ n12_ n13_ n14_ n15_ n16_ n17_
 have hHeld : w19.cell? ⟨gb19, 0, none⟩ = some (.slice Ao10 t602.length co10) ∧ w19.cell? ⟨gb19, 1, none⟩ = some (.int .i64 t5) ∧ w19.cell? ⟨gb19, 2, none⟩ = some (.string t6) ∧ w19.cell? ⟨gb19, 3, none⟩ = some (.slice Ao14 t7.length co14) ∧ w19.cell? ⟨gb19, 4, none⟩ = some (.int .i64 t10) := hS_
 refine nj_ ?_
 refine one_ (i := 8) (N := none) (lz_ 9 511) rfl rfl (one_of HT_.out (by kernel_rfl)) (by decide) (fun K hK => ?_)
 have hs20 := bc0_ BK23.out
 have hfs20 := blk_frozen BK23.out 0
 have hns20_0 := NB1_23.out
 have hns20_1 := NB19_23.out
 have hms20_0 := NB23_1.out
 have hms20_1 := NB23_19.out
 have hs21 := bc1_ BK23.out
 have hfs21 := blk_frozen BK23.out 1
 have hns21_0 := NB1_23.out
 have hns21_1 := NB19_23.out
 have hms21_0 := NB23_1.out
 have hms21_1 := NB23_19.out
 have hs22 := bc2_ BK23.out
 have hfs22 := blk_frozen BK23.out 2
 have hns22_0 := NB1_23.out
 have hns22_1 := NB19_23.out
 have hms22_0 := NB23_1.out
 have hms22_1 := NB23_19.out
 have hs23 := bc3_ BK23.out
 have hfs23 := blk_frozen BK23.out 3
 have hns23_0 := NB1_23.out
 have hns23_1 := NB19_23.out
 have hms23_0 := NB23_1.out
 have hms23_1 := NB23_19.out
 have hs24 := bc4_ BK23.out
 have hfs24 := blk_frozen BK23.out 4
 have hns24_0 := NB1_23.out
 have hns24_1 := NB19_23.out
 have hms24_0 := NB23_1.out
 have hms24_1 := NB23_19.out
 have hs25 := bc5_ BK23.out
 have hfs25 := blk_frozen BK23.out 5
 have hns25_0 := NB1_23.out
 have hns25_1 := NB19_23.out
 have hms25_0 := NB23_1.out
 have hms25_1 := NB23_19.out
 have hs26 := bc6_ BK23.out
 have hfs26 := blk_frozen BK23.out 6
 have hns26_0 := NB1_23.out
 have hns26_1 := NB19_23.out
 have hms26_0 := NB23_1.out
 have hms26_1 := NB23_19.out
 have hs27 := bc7_ BK23.out
 have hfs27 := blk_frozen BK23.out 7
 have hns27_0 := NB1_23.out
 have hns27_1 := NB19_23.out
 have hms27_0 := NB23_1.out
 have hms27_1 := NB23_19.out
 refine skip_ (w1 := ?_) (by rfl) rfl ?_ ?_
 rotate_left
 ·go_simp
  rfl
 refine hK.out _ _ ⟨(cf_ NB19_23 hHeld.1), (cf_ NB19_23 hHeld.2.1), (cf_ NB19_23 hHeld.2.2.1), (cf_ NB19_23 hHeld.2.2.2.1), (cf_ NB19_23 hHeld.2.2.2.2)⟩ (fun hHeld => ?_)
 clear hK K
 refine dn_ ?_
 replace H := itb_ H; obtain ⟨rfl, H⟩ | ⟨rfl, H⟩ := H
 ·replace H := bi_ H; obtain ⟨⟨t27, t28⟩, A6, H⟩ := H
  dsimp only at H
  simp only [Option.some.injEq, Prod.mk.injEq] at H
  obtain ⟨rfl, rfl, rfl, rfl, rfl, rfl, rfl, rfl, rfl, rfl, rfl, rfl⟩ := H
  try go_wp2_with (first | ((with_reducible refine gq_ 114 23 ?_); refine gc_ 23 Tryz.func114 (spec_l1Once.calls g s0_0 t21 t22 2 true t25 t26 w0 _ (in105_ HI0) (bi105_ HB) A4.out) ?_; rintro e w28 ⟨rfl, hi, hb, hk⟩; refine ⟨_, rfl, ?_⟩; replace BK1 := kbk_ hk (kq_ (o' := .cells #[.int .i64 0, .slice none 0 0, .int .i64 0, .string (⟨#[]⟩ : ByteArray), .slice none 0 0, .int .i64 0, .int .i64 0, .string (⟨#[]⟩ : ByteArray)] 43 (0, 0)) BK1) NB1_0; have i_ := iw105_ hk (show IsS105 w0 _ g s0_0 t21 t22 from in105_ HI0); replace HO4 := rat105_ i_ (kf_ HO4 BK23) hk; replace HO9 := rat105_ i_ (kf_ HO9 BK23) hk; replace HO13 := rat105_ i_ (kf_ HO13 BK23) hk; replace HO16 := rat105_ i_ (kf_ HO16 BK23) hk; clear i_; replace BK23 := kbk_ hk (kq_ (o' := .cells #[.int .i64 t20, .slice Ao10 t602.length co10, .int .i64 t5, .string t6, .slice Ao14 t7.length co14, .int .i64 t10, .int .i64 t5, .string t6] 43 (0, 0)) BK23) NB23_0; replace HK := ktr_ HK hk; replace HB := am_ hb; replace HI0 := am_ hi; clear hb hk hi; obtain ⟨Ao29, co29, eo29⟩ := Kd.R_slice HO16.out; subst eo29) | ((with_reducible refine gq_ 115 25 ?_); refine gc_ 25 Tryz.func115 (spec_BestHead.calls k _ _ t14 t27 t28 _ (ch_ HO16) (cl_ HO16) A6.out) ?_; rintro e w30 ⟨rfl, hb⟩; refine ⟨_, rfl, ?_⟩; replace HO4 := rb_ HO4 hb; replace HO9 := rb_ HO9 hb; replace HO13 := rb_ HO13 hb; replace HO16 := rb_ HO16 hb; replace BK1 := kl_ BK1 hb; replace BK23 := kl_ BK23 hb; replace HK := am_ (KeepBut.trans (kn_ HK) (KeepBut.of_below hb g none) (.inl rfl)); replace HB := am_ (below_step (bs4_ HB (IsS105.ge HI0.out) GE1.out GE19.out GE23.out) hb); replace HI0 := am_ (IsS105.below (in105_ HI0) hb); clear hb; have hnb31 := NB23_1.out; have hnc31 := NB1_23.out; have hnb32 := NB23_19.out; have hnc32 := NB19_23.out; have hnb33 := NB23_0.out; have hnc33 := NB0_23.out; have hcz34 := cz8_ BK23; have hnb35 := NB1_0.out; have hnc35 := NB0_1.out; have hcz36 := cz8_ BK1))
  refine bodyPost_ret (results_ctt rfl _ _ gb1 43 #[.int .i64 t20, .slice Ao10 t602.length co10, .int .i64 t5, .string t6, .slice Ao14 t7.length co14, .int .i64 t10, .int .i64 t27, .string t28] (0, 0) _ rfl (by exact kq_ BK1) Tryz.underlying43 rfl (by kernel_rfl)) rfl ?_
  exact ⟨_, _, _, _, e2_, kfm2_ HO4 BK23 BK1, kfm2_ HO9 BK23 BK1, kfm2_ HO16 BK23 BK1, kfm2_ HO13 BK23 BK1, in105_ HI0, bi105_ HB, kn_ HK⟩
 ·simp only [Option.some.injEq, Prod.mk.injEq] at H
  obtain ⟨rfl, rfl, rfl, rfl, rfl, rfl, rfl, rfl, rfl, rfl, rfl, rfl⟩ := H
  try go_wp2_with (first | ((with_reducible refine gq_ 114 23 ?_); refine gc_ 23 Tryz.func114 (spec_l1Once.calls g s0_0 t21 t22 2 false t25 t26 w0 _ (in105_ HI0) (bi105_ HB) A4.out) ?_; rintro e w58 ⟨rfl, hi, hb, hk⟩; refine ⟨_, rfl, ?_⟩; replace BK1 := kbk_ hk (kq_ (o' := .cells #[.int .i64 0, .slice none 0 0, .int .i64 0, .string (⟨#[]⟩ : ByteArray), .slice none 0 0, .int .i64 0, .int .i64 0, .string (⟨#[]⟩ : ByteArray)] 43 (0, 0)) BK1) NB1_0; have i_ := iw105_ hk (show IsS105 w0 _ g s0_0 t21 t22 from in105_ HI0); replace HO4 := rat105_ i_ (kf_ HO4 BK23) hk; replace HO9 := rat105_ i_ (kf_ HO9 BK23) hk; replace HO13 := rat105_ i_ (kf_ HO13 BK23) hk; replace HO16 := rat105_ i_ (kf_ HO16 BK23) hk; clear i_; replace BK23 := kbk_ hk (kq_ (o' := .cells #[.int .i64 t20, .slice Ao10 t602.length co10, .int .i64 t5, .string t6, .slice Ao14 t7.length co14, .int .i64 t10, .int .i64 t5, .string t6] 43 (0, 0)) BK23) NB23_0; replace HK := ktr_ HK hk; replace HB := am_ hb; replace HI0 := am_ hi; clear hb hk hi; have hnb59 := NB23_1.out; have hnc59 := NB1_23.out; have hnb60 := NB23_19.out; have hnc60 := NB19_23.out; have hnb61 := NB23_0.out; have hnc61 := NB0_23.out; have hcz62 := cz8_ BK23; have hnb63 := NB1_0.out; have hnc63 := NB0_1.out; have hcz64 := cz8_ BK1))
  refine bodyPost_ret (results_ctt rfl _ _ gb1 43 #[.int .i64 t20, .slice Ao10 t602.length co10, .int .i64 t5, .string t6, .slice Ao14 t7.length co14, .int .i64 t10, .int .i64 t5, .string t6] (0, 0) _ rfl (by exact kq_ BK1) Tryz.underlying43 rfl (by kernel_rfl)) rfl ?_
  exact ⟨_, _, _, _, e2_, kfm_ HO4 BK1, kfm_ HO9 BK1, kfm_ HO16 BK1, kfm_ HO13 BK1, in105_ HI0, bi105_ HB, kn_ HK⟩
def spec_l14Any.f (k : Nat) (s0_0 : List Int) (s0_1 : Int) (s0_2 : Int) : Option (Int × List ByteArray × Int × ByteArray × List Int × Int × Int × ByteArray × (List (S37)) × List ByteArray × Int × Int) := (spec_l14Draw.f k s0_0 s0_1 s0_2).bind fun bt2 => ((spec_l1Below.f s0_0 bt2.2.2.2.2.2.2.2.2.2.2.1 bt2.2.2.2.2.2.2.2.2.2.2.2 12).bind fun bt23 => (if bt23.1 = 0 then ((spec_l1Int.f s0_0 bt23.2.1 bt23.2.2 (([(-1), 21, 20] : List Int))).bind fun bt29 => (some (bt29.1, bt2.2.1, bt2.2.2.1, bt2.2.2.2.1, bt2.2.2.2.2.1, bt2.2.2.2.2.2.1, bt2.2.2.2.2.2.2.1, bt2.2.2.2.2.2.2.2.1, bt2.2.2.2.2.2.2.2.2.1, bt2.2.2.2.2.2.2.2.2.2.1, bt29.2.1, bt29.2.2))) else (if bt23.1 = 1 then ((spec_l10Any.f k s0_0 bt23.2.1 bt23.2.2).bind fun bt32 => (if 0 < (bt32.1.length : Int) then (some (bt2.1, bt2.2.1, bt2.2.2.1, bt2.2.2.2.1, bt2.2.2.2.2.1, bt2.2.2.2.2.2.1, (rd_T37 bt32.1 0).f0, (rd_T37 bt32.1 0).f1, bt2.2.2.2.2.2.2.2.2.1, bt2.2.2.2.2.2.2.2.2.2.1, bt32.2.1, bt32.2.2)) else (none))) else (if bt23.1 = 2 then ((spec_l12Any.f k s0_0 bt23.2.1 bt23.2.2).bind fun bt38 => (some (bt2.1, bt38.1, bt38.2.1, bt38.2.2.1, bt38.2.2.2.1, bt38.2.2.2.2.1, bt2.2.2.2.2.2.2.1, bt2.2.2.2.2.2.2.2.1, bt2.2.2.2.2.2.2.2.2.1, bt2.2.2.2.2.2.2.2.2.2.1, bt38.2.2.2.2.2.1, bt38.2.2.2.2.2.2))) else (some (bt2.1, bt2.2.1, bt2.2.2.1, bt2.2.2.2.1, bt2.2.2.2.2.1, bt2.2.2.2.2.2.1, bt2.2.2.2.2.2.2.1, bt2.2.2.2.2.2.2.2.1, bt2.2.2.2.2.2.2.2.2.1, bt2.2.2.2.2.2.2.2.2.2.1, bt23.2.1, bt23.2.2))))))
theorem spec_l14Any.calls (k : Nat) (g : Nat) (s0_0 : List Int) (s0_1 : Int) (s0_2 : Int) (r1 : Int) (r2 : List ByteArray) (r3 : Int) (r4 : ByteArray) (r5 : List Int) (r6 : Int) (r7 : Int) (r8 : ByteArray) (r9 : List (S37)) (r10 : List ByteArray) (r11 : Int) (r12 : Int) (w0 w : World) (hI : IsS105 w0 w g s0_0 s0_1 s0_2) (hB : Below w0.heap.size w0 w) (h : spec_l14Any.f k s0_0 s0_1 s0_2 = some (r1, r2, r3, r4, r5, r6, r7, r8, r9, r10, r11, r12)) :
  Calls Tryz.prog 52 #[.pointer (some ⟨g, 0, none⟩)] w fun e w' => ∃ v1_ v4_ v8_ v9_ : Value, e = .returned (.tuple #[.agg #[.int .i64 r1, v1_, .int .i64 r3, .string r4, v4_, .int .i64 r6, .int .i64 r7, .string r8], v8_, v9_]) ∧ Kd.R Kd.string 9 w' w.heap.size (fun k_ => some k_ ≠ (v9_ : Value).ownBlock) v1_ r2 ∧ Kd.R (Kd.int .u8) 5 w' w.heap.size (fun _ => True) v4_ r5 ∧ Kd.R k37 37 w' w.heap.size (fun _ => True) v8_ r9 ∧ Kd.R Kd.string 9 w' w.heap.size (fun k_ => some k_ ≠ (v1_ : Value).ownBlock) v9_ r10 ∧ IsS105 w0 w' g s0_0 r11 r12 ∧ Below w0.heap.size w0 w' ∧ KeepBut w w' g none := by
 have hu43 := Tryz.underlying43
 have hu37 := Tryz.underlying37
 have hu41 := Tryz.underlying41
 have HI0 := am_ hI
 have HK := am_ (KeepBut.refl w g none)
 have HL := am_ hB.size
 clear hI
 have HW0 := am_ hB.size
 have HB := am_ hB
 clear hB
 have H : ((spec_l14Draw.f k s0_0 s0_1 s0_2).bind fun bt2 => ((spec_l1Below.f s0_0 bt2.2.2.2.2.2.2.2.2.2.2.1 bt2.2.2.2.2.2.2.2.2.2.2.2 12).bind fun bt23 => (if bt23.1 = 0 then ((spec_l1Int.f s0_0 bt23.2.1 bt23.2.2 (([(-1), 21, 20] : List Int))).bind fun bt29 => (some (bt29.1, bt2.2.1, bt2.2.2.1, bt2.2.2.2.1, bt2.2.2.2.2.1, bt2.2.2.2.2.2.1, bt2.2.2.2.2.2.2.1, bt2.2.2.2.2.2.2.2.1, bt2.2.2.2.2.2.2.2.2.1, bt2.2.2.2.2.2.2.2.2.2.1, bt29.2.1, bt29.2.2))) else (if bt23.1 = 1 then ((spec_l10Any.f k s0_0 bt23.2.1 bt23.2.2).bind fun bt32 => (if 0 < (bt32.1.length : Int) then (some (bt2.1, bt2.2.1, bt2.2.2.1, bt2.2.2.2.1, bt2.2.2.2.2.1, bt2.2.2.2.2.2.1, (rd_T37 bt32.1 0).f0, (rd_T37 bt32.1 0).f1, bt2.2.2.2.2.2.2.2.2.1, bt2.2.2.2.2.2.2.2.2.2.1, bt32.2.1, bt32.2.2)) else (none))) else (if bt23.1 = 2 then ((spec_l12Any.f k s0_0 bt23.2.1 bt23.2.2).bind fun bt38 => (some (bt2.1, bt38.1, bt38.2.1, bt38.2.2.1, bt38.2.2.2.1, bt38.2.2.2.2.1, bt2.2.2.2.2.2.2.1, bt2.2.2.2.2.2.2.2.1, bt2.2.2.2.2.2.2.2.2.1, bt2.2.2.2.2.2.2.2.2.2.1, bt38.2.2.2.2.2.1, bt38.2.2.2.2.2.2))) else (some (bt2.1, bt2.2.1, bt2.2.2.1, bt2.2.2.2.1, bt2.2.2.2.2.1, bt2.2.2.2.2.2.1, bt2.2.2.2.2.2.2.1, bt2.2.2.2.2.2.2.2.1, bt2.2.2.2.2.2.2.2.2.1, bt2.2.2.2.2.2.2.2.2.2.1, bt23.2.1, bt23.2.2))))))) = some (r1, r2, r3, r4, r5, r6, r7, r8, r9, r10, r11, r12) := h
 clear h
 replace H := bi_ H; obtain ⟨⟨t602, t3, t6, t7, t8, t11, t12, t13, t14, t17, t20, t21⟩, A2, H⟩ := H
 dsimp only at H
 replace H := bi_ H; obtain ⟨⟨t23, t24, t25⟩, A3, H⟩ := H
 dsimp only at H
 go_enter Tryz.func52, Tryz.ntmps52
 go_upto_if 16 with (first | ((with_reducible refine gd_ 2 ?_); refine x43_ 2 ?_; intro gb1 hg w6 hbox hb; replace HB := am_ (below_step (bs1_ HB (IsS105.ge HI0.out)) hb); have BK1 := am_ hbox; have GW1 := gw_ hg HK; have GE1 := am_ (Nat.le_trans HW0.out (gw_ hg HK).out); replace HK := am_ (KeepBut.trans (kn_ HK) (KeepBut.of_below hb g none) (.inl rfl)); have NB0_1 := am_ ((by rw [hg]; exact Nat.ne_of_lt (IsS105.lt (show IsS105 w0 _ g s0_0 s0_1 s0_2 from in105_ HI0)) : g ≠ gb1)); have NB1_0 := am_ ((by rw [hg]; exact Nat.ne_of_gt (IsS105.lt (show IsS105 w0 _ g s0_0 s0_1 s0_2 from in105_ HI0)) : gb1 ≠ g)); replace HI0 := am_ (IsS105.below (in105_ HI0) hb); clear hb hbox hg) | ((with_reducible refine gq_ 86 10 ?_); refine gc_ 10 Tryz.func86 (spec_l14Draw.calls k g s0_0 s0_1 s0_2 t602 t3 t6 t7 t8 t11 t12 t13 t14 t17 t20 t21 w0 _ (in105_ HI0) (bi105_ HB) A2.out) ?_; rintro e w7 ⟨v4, v9, v15, v18, rfl, ho0, ho1, ho2, ho3, hi, hb, hk⟩; refine ⟨_, rfl, ?_⟩; replace BK1 := kbk_ hk (kb_ BK1.out) NB1_0; have HO5 := am_ (Kd.R_lower ho0 (keep_size (w := w) (g := g) (row := none) (kn_ HK))); have HO10 := am_ (Kd.R_lower ho1 (keep_size (w := w) (g := g) (row := none) (kn_ HK))); have HO16 := am_ (Kd.R_lower ho2 (keep_size (w := w) (g := g) (row := none) (kn_ HK))); have HO19 := am_ (Kd.R_lower ho3 (keep_size (w := w) (g := g) (row := none) (kn_ HK))); replace HK := ktr_ HK hk; replace HB := am_ hb; replace HI0 := am_ hi; clear hb hk hi ho0 ho1 ho2 ho3) | ((with_reducible refine gd_ 5 ?_); refine x43_ 5 ?_; intro gb22 hg w8 hbox hb; replace HO5 := rb_ HO5 hb; replace HO10 := rb_ HO10 hb; replace HO16 := rb_ HO16 hb; replace HO19 := rb_ HO19 hb; replace HB := am_ (below_step (bs2_ HB (IsS105.ge HI0.out) GE1.out) hb); have BK22 := am_ hbox; have GW22 := gw_ hg HK; have GE22 := am_ (Nat.le_trans HW0.out (gw_ hg HK).out); replace HK := am_ (KeepBut.trans (kn_ HK) (KeepBut.of_below hb g none) (.inl rfl)); have NB1_22 := nla_ hg BK1; have NB22_1 := nga_ hg BK1; replace BK1 := kl_ BK1 hb; have NB0_22 := am_ ((by rw [hg]; exact Nat.ne_of_lt (IsS105.lt (show IsS105 w0 _ g s0_0 t20 t21 from in105_ HI0)) : g ≠ gb22)); have NB22_0 := am_ ((by rw [hg]; exact Nat.ne_of_gt (IsS105.lt (show IsS105 w0 _ g s0_0 t20 t21 from in105_ HI0)) : gb22 ≠ g)); replace HI0 := am_ (IsS105.below (in105_ HI0) hb); clear hb hbox hg; have hnb9 := NB22_1.out; have hnc9 := NB1_22.out; have hnb10 := NB22_0.out; have hnc10 := NB0_22.out; have hcz11 := cz8_ BK22; obtain ⟨Ao12, co12, eo12⟩ := Kd.R_slice HO5.out; subst eo12; obtain ⟨Ao13, co13, eo13⟩ := Kd.R_slice HO10.out; subst eo13) | ((with_reducible refine gq_ 87 15 ?_); refine gc_ 15 Tryz.func87 (spec_l1Below.calls g s0_0 t20 t21 12 t23 t24 t25 w0 _ (in105_ HI0) (bi105_ HB) A3.out) ?_; rintro e w14 ⟨rfl, hi, hb, hk⟩; refine ⟨_, rfl, ?_⟩; replace BK1 := kbk_ hk (kq_ (o' := .cells #[.int .i64 0, .slice none 0 0, .int .i64 0, .string (⟨#[]⟩ : ByteArray), .slice none 0 0, .int .i64 0, .int .i64 0, .string (⟨#[]⟩ : ByteArray)] 43 (0, 0)) BK1) NB1_0; have i_ := iw105_ hk (show IsS105 w0 _ g s0_0 t20 t21 from in105_ HI0); replace HO5 := rat105_ i_ (kf_ HO5 BK22) hk; replace HO10 := rat105_ i_ (kf_ HO10 BK22) hk; replace HO16 := rat105_ i_ (kf_ HO16 BK22) hk; replace HO19 := rat105_ i_ (kf_ HO19 BK22) hk; clear i_; replace BK22 := kbk_ hk (kq_ (o' := .cells #[.int .i64 t602, .slice Ao12 t3.length co12, .int .i64 t6, .string t7, .slice Ao13 t8.length co13, .int .i64 t11, .int .i64 t12, .string t13] 43 (0, 0)) BK22) NB22_0; replace HK := ktr_ HK hk; replace HB := am_ hb; replace HI0 := am_ hi; clear hb hk hi))
 (try simp only [Act.put, List.setIfInBounds_toArray, List.set_cons_zero, List.set_cons_succ])
 replace H := it_ H; obtain ⟨c4, H⟩ | ⟨c4, H⟩ := H
 ·have c4b0 : (t23 == 0) = true := beq_iff_eq.mpr c4
  have c4b1 : (t23 != 0) = false := bne_eq_false_iff_eq.mpr c4
  clear c4
  obtain ⟨y26, hy26⟩ : ∃ y_ : List Int, y_ = (([(-1), 21, 20] : List Int)) := ⟨_, rfl⟩
  replace H : ((spec_l1Int.f s0_0 t24 t25 y26).bind fun bt29 => (some (bt29.1, t3, t6, t7, t8, t11, t12, t13, t14, t17, bt29.2.1, bt29.2.2))) = some (r1, r2, r3, r4, r5, r6, r7, r8, r9, r10, r11, r12) := yh_ hy26 H
  have Ny26 := am_ hy26
  clear hy26
  replace H := bi_ H; obtain ⟨⟨t29, t30, t31⟩, A5, H⟩ := H
  dsimp only at H
  simp only [Option.some.injEq, Prod.mk.injEq] at H
  obtain ⟨rfl, rfl, rfl, rfl, rfl, rfl, rfl, rfl, rfl, rfl, rfl, rfl⟩ := H
  try go_wp2_with (first | ((with_reducible refine gd_ 19 ?_); refine rl_ (Kd.int .i64) 3 19 ([(-1), 21, 20] : List Int) [.int .i64 (-1), .int .i64 21, .int .i64 20] ?_; intro v27 w15 ho16 hb hg_ hnew_; clear hg_ hnew_; (first | rw [← Ny26.out] at ho16 | (simp only [Int.reduceToNat] at ho16; rw [← Ny26.out] at ho16)); replace HO5 := rb_ HO5 hb; replace HO10 := rb_ HO10 hb; replace HO16 := rb_ HO16 hb; replace HO19 := rb_ HO19 hb; have HO28 := am_ (Kd.R_lower ho16 (keep_size (w := w) (g := g) (row := none) (kn_ HK))); replace BK1 := kl_ BK1 hb; replace BK22 := kl_ BK22 hb; replace HK := am_ (KeepBut.trans (kn_ HK) (KeepBut.of_below hb g none) (.inl rfl)); replace HB := am_ (below_step (bs3_ HB (IsS105.ge HI0.out) GE1.out GE22.out) hb); replace HI0 := am_ (IsS105.below (in105_ HI0) hb); clear hb ho16; obtain ⟨Ao17, co17, eo17⟩ := Kd.R_slice HO28.out; subst eo17) | ((with_reducible refine gq_ 53 20 ?_); refine gc_ 20 Tryz.func53 (spec_l1Int.calls g s0_0 t24 t25 _ _ y26 t29 t30 t31 w0 _ (in105_ HI0) (bi105_ HB) (ch_ HO28) (cl_ HO28) (far_slice (IsS105.own_ne HI0.out HO28.out (by decide))) A5.out) ?_; rintro e w18 ⟨rfl, hi, hb, hk⟩; refine ⟨_, rfl, ?_⟩; replace BK1 := kbk_ hk (kb_ BK1.out) NB1_0; have i_ := iw105_ hk (show IsS105 w0 _ g s0_0 t24 t25 from in105_ HI0); replace HO5 := rat105_ i_ (kr_ HO5.out) hk; replace HO10 := rat105_ i_ (kr_ HO10.out) hk; replace HO16 := rat105_ i_ (kr_ HO16.out) hk; replace HO19 := rat105_ i_ (kr_ HO19.out) hk; replace BK22 := kbk_ hk (kb_ BK22.out) NB22_0; replace HO28 := rat105_ i_ (kr_ HO28.out) hk; clear i_; replace HK := ktr_ HK hk; replace HB := am_ hb; replace HI0 := am_ hi; clear hb hk hi; have hcz19 := cz8_ BK22; have hnb20 := NB1_0.out; have hnc20 := NB0_1.out; have hcz21 := cz8_ BK1))
  refine bodyPost_ret (results_ctt rfl _ _ gb1 43 #[.int .i64 t29, .slice Ao12 t3.length co12, .int .i64 t6, .string t7, .slice Ao13 t8.length co13, .int .i64 t11, .int .i64 t12, .string t13] (0, 0) _ rfl (by exact kq_ BK1) Tryz.underlying43 rfl (by kernel_rfl)) rfl ?_
  exact ⟨_, _, _, _, e2_, kfm2_ HO5 BK22 BK1, kfm2_ HO10 BK22 BK1, kfm2_ HO16 BK22 BK1, kfm2_ HO19 BK22 BK1, in105_ HI0, bi105_ HB, kn_ HK⟩
 ·have c4b0 : (t23 == 0) = false := beq_eq_false_iff_ne.mpr c4
  have c4b1 : (t23 != 0) = true := bne_iff_ne.mpr c4
  replace H := it_ H; obtain ⟨c22, H⟩ | ⟨c22, H⟩ := H
  ·have c22b0 : (t23 == 1) = true := beq_iff_eq.mpr c22
   have c22b1 : (t23 != 1) = false := bne_eq_false_iff_eq.mpr c22
   clear c22
   replace H := bi_ H; obtain ⟨⟨t32, t35, t36⟩, A23, H⟩ := H
   dsimp only at H
   replace H := ip_ H; obtain ⟨c24, H⟩ := H
   have c24b0 := decide_eq_true c24
   have c24b1 : decide (0 < t32.length) = true := decide_eq_true (by omega)
   clear c24
   simp only [Option.some.injEq, Prod.mk.injEq] at H
   obtain ⟨rfl, rfl, rfl, rfl, rfl, rfl, rfl, rfl, rfl, rfl, rfl, rfl⟩ := H
   try go_wp2_with (first | ((with_reducible refine gq_ 88 25 ?_); refine gc_ 25 Tryz.func88 (spec_l10Any.calls k g s0_0 t24 t25 t32 t35 t36 w0 _ (in105_ HI0) (bi105_ HB) A23.out) ?_; rintro e w34 ⟨v33, rfl, ho0, hi, hb, hk⟩; refine ⟨_, rfl, ?_⟩; replace BK1 := kbk_ hk (kb_ BK1.out) NB1_0; have i_ := iw105_ hk (show IsS105 w0 _ g s0_0 t24 t25 from in105_ HI0); replace HO5 := rat105_ i_ (kr_ HO5.out) hk; replace HO10 := rat105_ i_ (kr_ HO10.out) hk; replace HO19 := rat105_ i_ (kr_ HO19.out) hk; clear i_; replace BK22 := kbk_ hk (kb_ BK22.out) NB22_0; have HO34 := am_ (Kd.R_lower (Kd.R_new' ho0 (lt_ HO16)) (keep_size (w := w) (g := g) (row := none) (kn_ HK))); replace HO16 := am_ (Kd.R_mono (Kd.R_told (Kd.R_oldK (IsS105.apart (show IsS105 w0 _ g s0_0 t24 t25 from in105_ HI0) (kr_ HO16.out) (by decide)) hk) (Kd.R_base ho0)) (fun _ h_ => h_.1)); replace HK := ktr_ HK hk; replace HB := am_ hb; replace HI0 := am_ hi; clear hb hk hi ho0; obtain ⟨Ao35, co35, eo35⟩ := Kd.R_slice HO34.out; subst eo35; have p37 : 0 ≤ (0 : Int) := (by omega); have q37 : 0 < (t32.length : Int) := od_; obtain ⟨ad37, e37, hx37_0, hx37_1⟩ := at_T37 (Kd.R_reads' HO34.out).2.2 0 p37 q37; cases e37; have qi37 : (0 < t32.length) = True := eq_true (by omega); (try rw [show ((0 : Int)).toNat = 0 from rfl] at hx37_0); (try rw [show 0 * 2 = 0 from rfl] at hx37_0); (try rw [Addr.add_zero'] at hx37_0); (try rw [show ((0 : Int)).toNat = 0 from rfl] at hx37_1); (try rw [show 0 * 2 = 0 from rfl] at hx37_1); (try rw [Addr.add_zero'] at hx37_1); replace p37 := eq_true p37; replace q37 := eq_true q37; have hcz36 := cz8_ BK22; have hnb37 := NB1_0.out; have hnc37 := NB0_1.out; have hcz38 := cz8_ BK1))
   refine bodyPost_ret (results_ctt rfl _ _ gb1 43 #[.int .i64 t602, .slice Ao12 t3.length co12, .int .i64 t6, .string t7, .slice Ao13 t8.length co13, .int .i64 t11, .int .i64 ((rd_T37 t32 0).f0), .string ((rd_T37 t32 0).f1)] (0, 0) _ rfl (by exact kq_ BK1) Tryz.underlying43 rfl (by kernel_rfl)) rfl ?_
   exact ⟨_, _, _, _, e2_, kfm2_ HO5 BK22 BK1, kfm2_ HO10 BK22 BK1, kfm2_ HO16 BK22 BK1, kfm2_ HO19 BK22 BK1, in105_ HI0, bi105_ HB, kn_ HK⟩
  ·have c22b0 : (t23 == 1) = false := beq_eq_false_iff_ne.mpr c22
   have c22b1 : (t23 != 1) = true := bne_iff_ne.mpr c22
   replace H := it_ H; obtain ⟨c39, H⟩ | ⟨c39, H⟩ := H
   ·have c39b0 : (t23 == 2) = true := beq_iff_eq.mpr c39
    have c39b1 : (t23 != 2) = false := bne_eq_false_iff_eq.mpr c39
    clear c39
    replace H := bi_ H; obtain ⟨⟨t38, t41, t42, t43, t46, t47, t48⟩, A40, H⟩ := H
    dsimp only at H
    simp only [Option.some.injEq, Prod.mk.injEq] at H
    obtain ⟨rfl, rfl, rfl, rfl, rfl, rfl, rfl, rfl, rfl, rfl, rfl, rfl⟩ := H
    try go_wp2_with (first | ((with_reducible refine gq_ 89 32 ?_); refine gc_ 32 Tryz.func89 (spec_l12Any.calls k g s0_0 t24 t25 t38 t41 t42 t43 t46 t47 t48 w0 _ (in105_ HI0) (bi105_ HB) A40.out) ?_; rintro e w50 ⟨v39, v44, rfl, ho0, ho1, hi, hb, hk⟩; refine ⟨_, rfl, ?_⟩; replace BK1 := kbk_ hk (kb_ BK1.out) NB1_0; have i_ := iw105_ hk (show IsS105 w0 _ g s0_0 t24 t25 from in105_ HI0); replace HO16 := rat105_ i_ (kr_ HO16.out) hk; clear i_; replace BK22 := kbk_ hk (kb_ BK22.out) NB22_0; have HO40 := am_ (Kd.R_lower (Kd.R_new' (Kd.R_new' ho0 (lt_ HO5)) (lt_ HO19)) (keep_size (w := w) (g := g) (row := none) (kn_ HK))); replace HO5 := am_ (Kd.R_mono (Kd.R_told (Kd.R_oldK (IsS105.apart (show IsS105 w0 _ g s0_0 t24 t25 from in105_ HI0) (kr_ HO5.out) (by decide)) hk) (Kd.R_base ho0)) (fun _ h_ => h_.1)); replace HO19 := am_ (Kd.R_mono (Kd.R_told (Kd.R_oldK (IsS105.apart (show IsS105 w0 _ g s0_0 t24 t25 from in105_ HI0) (kr_ HO19.out) (by decide)) hk) (Kd.R_base ho0)) (fun _ h_ => h_.1)); have HO45 := am_ (Kd.R_lower (Kd.R_new' ho1 (lt_ HO10)) (keep_size (w := w) (g := g) (row := none) (kn_ HK))); replace HO10 := am_ (Kd.R_mono (Kd.R_told (Kd.R_oldK (IsS105.apart (show IsS105 w0 _ g s0_0 t24 t25 from in105_ HI0) (kr_ HO10.out) (by decide)) hk) (Kd.R_base ho1)) (fun _ h_ => h_.1)); replace HK := ktr_ HK hk; replace HB := am_ hb; replace HI0 := am_ hi; clear hb hk hi ho0 ho1; obtain ⟨Ao51, co51, eo51⟩ := Kd.R_slice HO40.out; subst eo51; have hcz52 := cz8_ BK22; obtain ⟨Ao53, co53, eo53⟩ := Kd.R_slice HO45.out; subst eo53; have hnb54 := NB1_0.out; have hnc54 := NB0_1.out; have hcz55 := cz8_ BK1))
    refine bodyPost_ret (results_ctt rfl _ _ gb1 43 #[.int .i64 t602, .slice Ao51 t38.length co51, .int .i64 t41, .string t42, .slice Ao53 t43.length co53, .int .i64 t46, .int .i64 t12, .string t13] (0, 0) _ rfl (by exact kq_ BK1) Tryz.underlying43 rfl (by kernel_rfl)) rfl ?_
    exact ⟨_, _, _, _, e2_, kr_ (Kd.R_mono (Kd.R_far (p := ⟨gb1, 7, none⟩) (Kd.R_far (p := ⟨gb1, 6, none⟩) (Kd.R_far (p := ⟨gb1, 5, none⟩) (Kd.R_far (p := ⟨gb1, 4, none⟩) (Kd.R_far (p := ⟨gb1, 3, none⟩) (Kd.R_far (p := ⟨gb1, 2, none⟩) (Kd.R_far (p := ⟨gb1, 1, none⟩) (Kd.R_far (p := ⟨gb1, 0, none⟩) (Kd.R_far (p := ⟨gb22, 5, none⟩) (Kd.R_far (p := ⟨gb22, 4, none⟩) (Kd.R_far (p := ⟨gb22, 3, none⟩) (Kd.R_far (p := ⟨gb22, 2, none⟩) (Kd.R_far (p := ⟨gb22, 1, none⟩) (Kd.R_types (Kd.R_types HO40.out BK22.out (by decide)) BK1.out (by decide)) (fun _ hk => hk.1.2) (.slice Ao51 t38.length co51)) (fun _ hk => hk.1.2) (.int .i64 t41)) (fun _ hk => hk.1.2) (.string t42)) (fun _ hk => hk.1.2) (.slice Ao53 t43.length co53)) (fun _ hk => hk.1.2) (.int .i64 t46)) (fun _ hk => hk.2) (.int .i64 t602)) (fun _ hk => hk.2) (.slice Ao51 t38.length co51)) (fun _ hk => hk.2) (.int .i64 t41)) (fun _ hk => hk.2) (.string t42)) (fun _ hk => hk.2) (.slice Ao53 t43.length co53)) (fun _ hk => hk.2) (.int .i64 t46)) (fun _ hk => hk.2) (.int .i64 t12)) (fun _ hk => hk.2) (.string t13)) (fun _ hk => hk.1.1.2)), kfm2_ HO45 BK22 BK1, kfm2_ HO16 BK22 BK1, kr_ (Kd.R_mono (Kd.R_far (p := ⟨gb1, 7, none⟩) (Kd.R_far (p := ⟨gb1, 6, none⟩) (Kd.R_far (p := ⟨gb1, 5, none⟩) (Kd.R_far (p := ⟨gb1, 4, none⟩) (Kd.R_far (p := ⟨gb1, 3, none⟩) (Kd.R_far (p := ⟨gb1, 2, none⟩) (Kd.R_far (p := ⟨gb1, 1, none⟩) (Kd.R_far (p := ⟨gb1, 0, none⟩) (Kd.R_far (p := ⟨gb22, 5, none⟩) (Kd.R_far (p := ⟨gb22, 4, none⟩) (Kd.R_far (p := ⟨gb22, 3, none⟩) (Kd.R_far (p := ⟨gb22, 2, none⟩) (Kd.R_far (p := ⟨gb22, 1, none⟩) (Kd.R_types (Kd.R_types HO19.out BK22.out (by decide)) BK1.out (by decide)) (fun _ hk => hk.1.2) (.slice Ao51 t38.length co51)) (fun _ hk => hk.1.2) (.int .i64 t41)) (fun _ hk => hk.1.2) (.string t42)) (fun _ hk => hk.1.2) (.slice Ao53 t43.length co53)) (fun _ hk => hk.1.2) (.int .i64 t46)) (fun _ hk => hk.2) (.int .i64 t602)) (fun _ hk => hk.2) (.slice Ao51 t38.length co51)) (fun _ hk => hk.2) (.int .i64 t41)) (fun _ hk => hk.2) (.string t42)) (fun _ hk => hk.2) (.slice Ao53 t43.length co53)) (fun _ hk => hk.2) (.int .i64 t46)) (fun _ hk => hk.2) (.int .i64 t12)) (fun _ hk => hk.2) (.string t13)) (fun _ hk => hk.1.1.2)), in105_ HI0, bi105_ HB, kn_ HK⟩
   ·have c39b0 : (t23 == 2) = false := beq_eq_false_iff_ne.mpr c39
    have c39b1 : (t23 != 2) = true := bne_iff_ne.mpr c39
    simp only [Option.some.injEq, Prod.mk.injEq] at H
    obtain ⟨rfl, rfl, rfl, rfl, rfl, rfl, rfl, rfl, rfl, rfl, rfl, rfl⟩ := H
    have hcz65 := cz8_ BK22; have hnb66 := NB1_0.out; have hnc66 := NB0_1.out; have hcz67 := cz8_ BK1
    try go_wp2
    refine bodyPost_ret (results_ctt rfl _ _ gb1 43 #[.int .i64 t602, .slice Ao12 t3.length co12, .int .i64 t6, .string t7, .slice Ao13 t8.length co13, .int .i64 t11, .int .i64 t12, .string t13] (0, 0) _ rfl (by exact kq_ BK1) Tryz.underlying43 rfl (by kernel_rfl)) rfl ?_
    exact ⟨_, _, _, _, e2_, kfm_ HO5 BK1, kfm_ HO10 BK1, kfm_ HO16 BK1, kfm_ HO19 BK1, in105_ HI0, bi105_ HB, kn_ HK⟩
section
attribute [local go_sem high] eqA37
def spec_l14Known.f (k : Nat) (l0 : List (S37)) (a1_0 : Int) (a1_1 : ByteArray) : Option (Bool) := (spec_HeadOf.f k (([] : List ByteArray))).bind fun bt5 => (if (a1_0 == bt5.1 && (a1_1.toList == bt5.2.toList)) = true then (some true) else ((spec_IsSigned.f k l0 a1_0 a1_1).bind fun t7 => (some t7)))
def spec_l14Known.T1 : Bool × List (List Nat × List Nat) := (true, [([], []), ([], []), ([1], [1]), ([0, 2], [0, 2]), ([3, 2], [3]), ([4], [4]), ([4], [4]), ([5, 6, 4, 4], [4, 5, 6]), ([4, 7], [4, 7]), ([8, 7, 0, 1, 2, 3, 4, 5, 6, 7, 8], [8])])
def spec_l14Known.B1 : List Nat := [0, 0, 2, 7, 15, 31, 31, 127, 255, 511]
theorem spec_l14Known.tab1 : rtab .any (opsOf Tryz.f75 1) = spec_l14Known.T1 := by kernel_rfl
theorem spec_l14Known.bits1 : waitsOk spec_l14Known.T1.2 spec_l14Known.B1 = true := by kernel_rfl
theorem spec_l14Known.calls (k : Nat) (A0 : Option Addr) (c0 : Nat) (l0 : List (S37)) (a1_0 : Int) (a1_1 : ByteArray) (r : Bool) (w : World) (hr0 : Kd.C k37 w A0 l0.length l0) (hc0 : l0.length ≤ c0) (h : spec_l14Known.f k l0 a1_0 a1_1 = some r) :
  Calls Tryz.prog 75 #[.slice A0 l0.length c0, .agg #[.int .i64 a1_0, .string a1_1]] w fun e w' => e = .returned (.bool r) ∧ Below w.heap.size w w' := by
 have hu37 := Tryz.underlying37
 have HR0 := am_ hr0
 have HC0 := am_ hc0
 clear hr0 hc0
 have HB := h0_ w
 have H : ((spec_HeadOf.f k (([] : List ByteArray))).bind fun bt5 => (if (a1_0 == bt5.1 && (a1_1.toList == bt5.2.toList)) = true then (some true) else ((spec_IsSigned.f k l0 a1_0 a1_1).bind fun t7 => (some t7)))) = some r := h
 clear h
 obtain ⟨y602, hy2⟩ : ∃ y_ : List ByteArray, y_ = (([] : List ByteArray)) := ⟨_, rfl⟩
 replace H : ((spec_HeadOf.f k y602).bind fun bt5 => (if (a1_0 == bt5.1 && (a1_1.toList == bt5.2.toList)) = true then (some true) else ((spec_IsSigned.f k l0 a1_0 a1_1).bind fun t7 => (some t7)))) = some r := yh_ hy2 H
 have Ny2 := am_ hy2
 clear hy2
 replace H := bi_ H; obtain ⟨⟨t5, t6⟩, A3, H⟩ := H
 dsimp only at H
 replace H := it_ H; obtain ⟨c4, H⟩ | ⟨c4, H⟩ := H
 ·have c4b0 : (a1_0 == t5 && (a1_1.toList == t6.toList)) = true := c4
  (try (have c4b1 : decide (a1_0 = t5 && (a1_1.toList == t6.toList)) = true := by simpa using c4))
  (try (have c4b2 : (a1_0 == t5 && (a1_1.toList == t6.toList)) = true := by simpa using c4))
  clear c4
  obtain rfl := Option.some.inj H
  go_enter Tryz.func75, Tryz.ntmps75
  try go_wp2_with (first | ((with_reducible refine gd_ 3 ?_); refine bx_ 3 37 #[.int .i64 a1_0, .string a1_1] (hx_ HB ?_); clear HB; intro gb1 w5 BK1 GW1 HB; have GE1 := GW1))
  replace BK1 := bd_ BK1
  replace HB := hd_ HB
  refine sw_ 10 (fun w' => w'.cell? ⟨gb1, 0, none⟩ = some (.int .i64 a1_0) ∧ w'.cell? ⟨gb1, 1, none⟩ = some (.string a1_1)) [] spec_l14Known.tab1 spec_l14Known.bits1 ⟨bc0_ BK1.out, bc1_ BK1.out⟩ (fun hHeld HT_ HW_ => ?_)
  generalize w5.drew = w6 at BK1 HB hHeld ⊢
  refine tt_ 0 5 1 ?_
  refine oz_ 1 6 10 3 (fun K hK => ?_)
  refine Kd.R_lit_step Kd.string _ 9 ?hg (N := 6) ?hd (xs := ([] : List ByteArray)) (inner := []) (ok := fun _ => True) (okp := fun _ => True) ?hr ?hp (fun _ hk => hk) trivial (Below.refl _ _) (Nat.le_refl _) (by simp) ?_; (case hd => rfl); (case hg => rfl); (case hr => first | (go_simp; done) | (go_simp; rfl)); (case hp => exact (Reps.none _ _))
  intro v3 w7 ho8 hb hg_ hnew_
  clear hg_ hnew_
  (first | rw [← Ny2.out] at ho8 | (simp only [Int.reduceToNat] at ho8; rw [← Ny2.out] at ho8))
  have HO4 := rlo_ ho8 HB
  replace BK1 := kl_ BK1 hb
  replace HB := ss_ HB hb
  clear hb ho8
  obtain ⟨Ao9, co9, eo9⟩ := Kd.R_slice HO4.out
  (first | subst eo9 | (injection eo9 with f1_ f2_ f3_; have f4_ := f1_.symm; have f5_ := f3_.symm; clear f1_ f2_ f3_; subst f4_; subst f5_))
  refine hK.out _ _ ⟨bc0_ BK1.out, bc1_ BK1.out⟩ (fun hHeld => ?_)
  clear hK K
  refine no_ 6 ?_
  refine oz_ 2 7 10 7 (fun K hK => ?_)
  refine gf_ Tryz.func110 (spec_HeadOf.calls k _ _ y602 t5 t6 _ (ch_ HO4) (cl_ HO4) A3.out) ?_
  rintro e w10 ⟨rfl, hb⟩
  refine ⟨_, rfl, ?_⟩
  replace HO4 := rb_ HO4 hb
  replace BK1 := kl_ BK1 hb
  replace HB := ss_ HB hb
  clear hb
  refine hK.out _ _ ⟨bc0_ BK1.out, bc1_ BK1.out⟩ (fun hHeld => ?_)
  clear hK K
  refine no_ 7 ?_
  refine pt_ 3 8 15 ?_
  refine pt_ 4 9 31 ?_
  refine ut_ 5 10 63 ?_
  refine ut_ 6 11 127 ?_
  refine ut_ 7 12 255 ?_
  refine pt_ 8 13 511 ?_
  refine pt_ 9 4 1023 ?_
  refine dn_ ?_
  try go_wp2
  go_ret
  exact ⟨e2_, bw_ HB⟩
 ·have c4b0 : (a1_0 == t5 && (a1_1.toList == t6.toList)) = false := by simpa using c4
  (try (have c4b1 : decide (a1_0 = t5 && (a1_1.toList == t6.toList)) = false := by simpa using c4))
  (try (have c4b2 : (a1_0 == t5 && (a1_1.toList == t6.toList)) = false := by simpa using c4))
  (try (have c4b3 : ¬ (a1_0 = t5 && (a1_1.toList == t6.toList)) := by simpa using c4))
  clear c4
  replace H := bi_ H; obtain ⟨t7, A11, H⟩ := H
  obtain rfl := Option.some.inj H
  go_enter Tryz.func75, Tryz.ntmps75
  try go_wp2_with (first | ((with_reducible refine gd_ 3 ?_); refine bx_ 3 37 #[.int .i64 a1_0, .string a1_1] (hx_ HB ?_); clear HB; intro gb1 w12 BK1 GW1 HB; have GE1 := GW1))
  replace BK1 := bd_ BK1
  replace HB := hd_ HB
  refine sw_ 10 (fun w' => w'.cell? ⟨gb1, 0, none⟩ = some (.int .i64 a1_0) ∧ w'.cell? ⟨gb1, 1, none⟩ = some (.string a1_1)) [] spec_l14Known.tab1 spec_l14Known.bits1 ⟨bc0_ BK1.out, bc1_ BK1.out⟩ (fun hHeld HT_ HW_ => ?_)
  generalize w12.drew = w13 at BK1 HB hHeld ⊢
  refine tt_ 0 5 1 ?_
  refine oz_ 1 6 10 3 (fun K hK => ?_)
  refine Kd.R_lit_step Kd.string _ 9 ?hg (N := 6) ?hd (xs := ([] : List ByteArray)) (inner := []) (ok := fun _ => True) (okp := fun _ => True) ?hr ?hp (fun _ hk => hk) trivial (Below.refl _ _) (Nat.le_refl _) (by simp) ?_; (case hd => rfl); (case hg => rfl); (case hr => first | (go_simp; done) | (go_simp; rfl)); (case hp => exact (Reps.none _ _))
  intro v3 w14 ho15 hb hg_ hnew_
  clear hg_ hnew_
  (first | rw [← Ny2.out] at ho15 | (simp only [Int.reduceToNat] at ho15; rw [← Ny2.out] at ho15))
  have HO4 := rlo_ ho15 HB
  replace BK1 := kl_ BK1 hb
  replace HB := ss_ HB hb
  clear hb ho15
  obtain ⟨Ao16, co16, eo16⟩ := Kd.R_slice HO4.out
  (first | subst eo16 | (injection eo16 with f1_ f2_ f3_; have f4_ := f1_.symm; have f5_ := f3_.symm; clear f1_ f2_ f3_; subst f4_; subst f5_))
  refine hK.out _ _ ⟨bc0_ BK1.out, bc1_ BK1.out⟩ (fun hHeld => ?_)
  clear hK K
  refine no_ 6 ?_
  refine oz_ 2 7 10 7 (fun K hK => ?_)
  refine gf_ Tryz.func110 (spec_HeadOf.calls k _ _ y602 t5 t6 _ (ch_ HO4) (cl_ HO4) A3.out) ?_
  rintro e w17 ⟨rfl, hb⟩
  refine ⟨_, rfl, ?_⟩
  replace BK1 := kl_ BK1 hb
  replace HB := ss_ HB hb
  clear hb
  refine hK.out _ _ ⟨bc0_ BK1.out, bc1_ BK1.out⟩ (fun hHeld => ?_)
  clear hK K
  refine no_ 7 ?_
  refine pt_ 3 8 15 ?_
  refine pt_ 4 9 31 ?_
  refine pt_ 5 10 63 ?_
  refine tt_ 6 11 127 ?_
  refine oz_ 7 12 10 255 (fun K hK => ?_)
  refine gf_ Tryz.func111 (spec_IsSigned.calls k _ _ l0 a1_0 a1_1 t7 _ (cb_ HR0 HB) HC0.out A11.out) ?_
  rintro e w18 ⟨rfl, hb⟩
  refine ⟨_, rfl, ?_⟩
  replace BK1 := kl_ BK1 hb
  replace HB := ss_ HB hb
  clear hb
  refine hK.out _ _ ⟨bc0_ BK1.out, bc1_ BK1.out⟩ (fun hHeld => ?_)
  clear hK K
  refine no_ 12 ?_
  refine pt_ 8 13 511 ?_
  refine pt_ 9 4 1023 ?_
  refine dn_ ?_
  try go_wp2
  go_ret
  exact ⟨e2_, bw_ HB⟩
end
def spec_MirrorOk.f (k : Nat) (a0_0 : Int) (l0_1 : List ByteArray) (a0_2 : Int) (a0_3 : ByteArray) (l0_4 : List Int) (a0_5 : Int) (a0_6 : Int) (a0_7 : ByteArray) (l1 : List (S37)) : Option (Bool) := (spec_l1In.f a0_0 0 20).bind fun t602 => (if t602 = true then ((spec_StoreOk.f k l0_1 a0_2 a0_3 l0_4 a0_5).bind fun t3 => (if t3 = true then ((spec_HeadOk.f a0_6 a0_7).bind fun t4 => (if t4 = true then ((spec_l14Known.f k l1 a0_6 a0_7).bind fun t5 => (if t5 = true then ((spec_l14Known.f k l1 a0_2 a0_3).bind fun t6 => (some t6)) else (some false))) else (some false))) else (some false))) else (some false))
theorem spec_MirrorOk.calls (k : Nat) (a0_0 : Int) (A0_1 : Option Addr) (c0_1 : Nat) (l0_1 : List ByteArray) (a0_2 : Int) (a0_3 : ByteArray) (A0_4 : Option Addr) (c0_4 : Nat) (l0_4 : List Int) (a0_5 : Int) (a0_6 : Int) (a0_7 : ByteArray) (A1 : Option Addr) (c1 : Nat) (l1 : List (S37)) (r : Bool) (w : World) (hr0_1 : Kd.C Kd.string w A0_1 l0_1.length l0_1) (hc0_1 : l0_1.length ≤ c0_1) (hr0_4 : Kd.C (Kd.int .u8) w A0_4 l0_4.length l0_4) (hc0_4 : l0_4.length ≤ c0_4) (hr1 : Kd.C k37 w A1 l1.length l1) (hc1 : l1.length ≤ c1) (h : spec_MirrorOk.f k a0_0 l0_1 a0_2 a0_3 l0_4 a0_5 a0_6 a0_7 l1 = some r) :
  Calls Tryz.prog 39 #[.agg #[.int .i64 a0_0, .slice A0_1 l0_1.length c0_1, .int .i64 a0_2, .string a0_3, .slice A0_4 l0_4.length c0_4, .int .i64 a0_5, .int .i64 a0_6, .string a0_7], .slice A1 l1.length c1] w fun e w' => e = .returned (.bool r) ∧ Below w.heap.size w w' := by
 have hu43 := Tryz.underlying43
 have hu41 := Tryz.underlying41
 have hu37 := Tryz.underlying37
 have HR0_1 := am_ hr0_1
 have HC0_1 := am_ hc0_1
 clear hr0_1 hc0_1
 have HR0_4 := am_ hr0_4
 have HC0_4 := am_ hc0_4
 clear hr0_4 hc0_4
 have HR1 := am_ hr1
 have HC1 := am_ hc1
 clear hr1 hc1
 have HB := h0_ w
 have H : ((spec_l1In.f a0_0 0 20).bind fun t602 => (if t602 = true then ((spec_StoreOk.f k l0_1 a0_2 a0_3 l0_4 a0_5).bind fun t3 => (if t3 = true then ((spec_HeadOk.f a0_6 a0_7).bind fun t4 => (if t4 = true then ((spec_l14Known.f k l1 a0_6 a0_7).bind fun t5 => (if t5 = true then ((spec_l14Known.f k l1 a0_2 a0_3).bind fun t6 => (some t6)) else (some false))) else (some false))) else (some false))) else (some false))) = some r := h
 clear h
 replace H := bi_ H; obtain ⟨t602, A3, H⟩ := H
 replace H := itb_ H; obtain ⟨rfl, H⟩ | ⟨rfl, H⟩ := H
 ·replace H := bi_ H; obtain ⟨t3, A5, H⟩ := H
  replace H := itb_ H; obtain ⟨rfl, H⟩ | ⟨rfl, H⟩ := H
  ·replace H := bi_ H; obtain ⟨t4, A7, H⟩ := H
   replace H := itb_ H; obtain ⟨rfl, H⟩ | ⟨rfl, H⟩ := H
   ·replace H := bi_ H; obtain ⟨t5, A9, H⟩ := H
    replace H := itb_ H; obtain ⟨rfl, H⟩ | ⟨rfl, H⟩ := H
    ·replace H := bi_ H; obtain ⟨t6, A11, H⟩ := H
     obtain rfl := Option.some.inj H
     go_enter Tryz.func39, Tryz.ntmps39
     go_wp2_with (first | ((with_reducible refine gd_ 2 ?_); refine bx_ 2 43 #[.int .i64 a0_0, .slice A0_1 l0_1.length c0_1, .int .i64 a0_2, .string a0_3, .slice A0_4 l0_4.length c0_4, .int .i64 a0_5, .int .i64 a0_6, .string a0_7] (hx_ HB ?_); clear HB; intro gb1 w12 BK1 GW1 HB; have GE1 := GW1; have hcz13 := cz8_ BK1) | ((with_reducible refine gq_ 72 7 ?_); refine gc_ 7 Tryz.func72 (spec_l1In.calls a0_0 0 20 true _ A3.out) ?_; rintro e w' ⟨rfl, ⟨nd, rfl⟩⟩; refine ⟨_, rfl, ?_⟩) | (go_at_call 73; (with_reducible refine (spec_StoreOk.calls k _ _ l0_1 a0_2 a0_3 _ _ l0_4 a0_5 true _ ?side1 ?side2 ?side3 ?side4 A5.out).mono ?_); (case side1 => exact cr_ (Kd.C_below HR0_1.out (bw_ HB))); (case side2 => exact HC0_1.out); (case side3 => exact cr_ (Kd.C_below HR0_4.out (bw_ HB))); (case side4 => exact HC0_4.out); rintro e w14 ⟨rfl, hb⟩; replace BK1 := kl_ BK1 hb; replace HB := ss_ HB hb; clear hb; have hcz15 := cz8_ BK1) | (go_at_call 74; (with_reducible refine (spec_HeadOk.calls a0_6 a0_7 true _ A7.out).mono ?_); rintro e w16 ⟨rfl, hb⟩; replace BK1 := kl_ BK1 hb; replace HB := ss_ HB hb; clear hb; have hcz17 := cz8_ BK1) | (go_at_call 75; (with_reducible refine (spec_l14Known.calls k _ _ l1 a0_6 a0_7 true _ ?side1 ?side2 A9.out).mono ?_); (case side1 => exact cb_ HR1 HB); (case side2 => exact HC1.out); rintro e w18 ⟨rfl, hb⟩; replace BK1 := kl_ BK1 hb; replace HB := ss_ HB hb; clear hb; have hcz19 := cz8_ BK1) | (go_at_call 75; (with_reducible refine (spec_l14Known.calls k _ _ l1 a0_2 a0_3 t6 _ ?side1 ?side2 A11.out).mono ?_); (case side1 => exact cb_ HR1 HB); (case side2 => exact HC1.out); rintro e w20 ⟨rfl, hb⟩; replace BK1 := kl_ BK1 hb; replace HB := ss_ HB hb; clear hb))
     go_ret
     exact ⟨e2_, bw_ HB⟩
    ·obtain rfl := Option.some.inj H
     go_enter Tryz.func39, Tryz.ntmps39
     go_wp2_with (first | ((with_reducible refine gd_ 2 ?_); refine bx_ 2 43 #[.int .i64 a0_0, .slice A0_1 l0_1.length c0_1, .int .i64 a0_2, .string a0_3, .slice A0_4 l0_4.length c0_4, .int .i64 a0_5, .int .i64 a0_6, .string a0_7] (hx_ HB ?_); clear HB; intro gb1 w21 BK1 GW1 HB; have GE1 := GW1; have hcz22 := cz8_ BK1) | ((with_reducible refine gq_ 72 7 ?_); refine gc_ 7 Tryz.func72 (spec_l1In.calls a0_0 0 20 true _ A3.out) ?_; rintro e w' ⟨rfl, ⟨nd, rfl⟩⟩; refine ⟨_, rfl, ?_⟩) | (go_at_call 73; (with_reducible refine (spec_StoreOk.calls k _ _ l0_1 a0_2 a0_3 _ _ l0_4 a0_5 true _ ?side1 ?side2 ?side3 ?side4 A5.out).mono ?_); (case side1 => exact cr_ (Kd.C_below HR0_1.out (bw_ HB))); (case side2 => exact HC0_1.out); (case side3 => exact cr_ (Kd.C_below HR0_4.out (bw_ HB))); (case side4 => exact HC0_4.out); rintro e w23 ⟨rfl, hb⟩; replace BK1 := kl_ BK1 hb; replace HB := ss_ HB hb; clear hb; have hcz24 := cz8_ BK1) | (go_at_call 74; (with_reducible refine (spec_HeadOk.calls a0_6 a0_7 true _ A7.out).mono ?_); rintro e w25 ⟨rfl, hb⟩; replace BK1 := kl_ BK1 hb; replace HB := ss_ HB hb; clear hb; have hcz26 := cz8_ BK1) | (go_at_call 75; (with_reducible refine (spec_l14Known.calls k _ _ l1 a0_6 a0_7 false _ ?side1 ?side2 A9.out).mono ?_); (case side1 => exact cb_ HR1 HB); (case side2 => exact HC1.out); rintro e w27 ⟨rfl, hb⟩; replace BK1 := kl_ BK1 hb; replace HB := ss_ HB hb; clear hb))
     go_ret
     exact ⟨e2_, bw_ HB⟩
   ·obtain rfl := Option.some.inj H
    go_enter Tryz.func39, Tryz.ntmps39
    go_wp2_with (first | ((with_reducible refine gd_ 2 ?_); refine bx_ 2 43 #[.int .i64 a0_0, .slice A0_1 l0_1.length c0_1, .int .i64 a0_2, .string a0_3, .slice A0_4 l0_4.length c0_4, .int .i64 a0_5, .int .i64 a0_6, .string a0_7] (hx_ HB ?_); clear HB; intro gb1 w28 BK1 GW1 HB; have GE1 := GW1; have hcz29 := cz8_ BK1) | ((with_reducible refine gq_ 72 7 ?_); refine gc_ 7 Tryz.func72 (spec_l1In.calls a0_0 0 20 true _ A3.out) ?_; rintro e w' ⟨rfl, ⟨nd, rfl⟩⟩; refine ⟨_, rfl, ?_⟩) | (go_at_call 73; (with_reducible refine (spec_StoreOk.calls k _ _ l0_1 a0_2 a0_3 _ _ l0_4 a0_5 true _ ?side1 ?side2 ?side3 ?side4 A5.out).mono ?_); (case side1 => exact cr_ (Kd.C_below HR0_1.out (bw_ HB))); (case side2 => exact HC0_1.out); (case side3 => exact cr_ (Kd.C_below HR0_4.out (bw_ HB))); (case side4 => exact HC0_4.out); rintro e w30 ⟨rfl, hb⟩; replace BK1 := kl_ BK1 hb; replace HB := ss_ HB hb; clear hb; have hcz31 := cz8_ BK1) | (go_at_call 74; (with_reducible refine (spec_HeadOk.calls a0_6 a0_7 false _ A7.out).mono ?_); rintro e w32 ⟨rfl, hb⟩; replace BK1 := kl_ BK1 hb; replace HB := ss_ HB hb; clear hb))
    go_ret
    exact ⟨e2_, bw_ HB⟩
  ·obtain rfl := Option.some.inj H
   go_enter Tryz.func39, Tryz.ntmps39
   go_wp2_with (first | ((with_reducible refine gd_ 2 ?_); refine bx_ 2 43 #[.int .i64 a0_0, .slice A0_1 l0_1.length c0_1, .int .i64 a0_2, .string a0_3, .slice A0_4 l0_4.length c0_4, .int .i64 a0_5, .int .i64 a0_6, .string a0_7] (hx_ HB ?_); clear HB; intro gb1 w33 BK1 GW1 HB; have GE1 := GW1; have hcz34 := cz8_ BK1) | ((with_reducible refine gq_ 72 7 ?_); refine gc_ 7 Tryz.func72 (spec_l1In.calls a0_0 0 20 true _ A3.out) ?_; rintro e w' ⟨rfl, ⟨nd, rfl⟩⟩; refine ⟨_, rfl, ?_⟩) | (go_at_call 73; (with_reducible refine (spec_StoreOk.calls k _ _ l0_1 a0_2 a0_3 _ _ l0_4 a0_5 false _ ?side1 ?side2 ?side3 ?side4 A5.out).mono ?_); (case side1 => exact cr_ (Kd.C_below HR0_1.out (bw_ HB))); (case side2 => exact HC0_1.out); (case side3 => exact cr_ (Kd.C_below HR0_4.out (bw_ HB))); (case side4 => exact HC0_4.out); rintro e w35 ⟨rfl, hb⟩; replace BK1 := kl_ BK1 hb; replace HB := ss_ HB hb; clear hb))
   go_ret
   exact ⟨e2_, bw_ HB⟩
 ·obtain rfl := Option.some.inj H
  go_enter Tryz.func39, Tryz.ntmps39
  go_wp2_with (first | ((with_reducible refine gd_ 2 ?_); refine bx_ 2 43 #[.int .i64 a0_0, .slice A0_1 l0_1.length c0_1, .int .i64 a0_2, .string a0_3, .slice A0_4 l0_4.length c0_4, .int .i64 a0_5, .int .i64 a0_6, .string a0_7] (hx_ HB ?_); clear HB; intro gb1 w36 BK1 GW1 HB; have GE1 := GW1; have hcz37 := cz8_ BK1) | ((with_reducible refine gq_ 72 7 ?_); refine gc_ 7 Tryz.func72 (spec_l1In.calls a0_0 0 20 false _ A3.out) ?_; rintro e w' ⟨rfl, ⟨nd, rfl⟩⟩; refine ⟨_, rfl, ?_⟩))
  go_ret
  exact ⟨e2_, bw_ HB⟩
def impl_isId.f (a0 : Int) : Option (Bool) := (impl_inRange.f a0 0 20).bind fun t1 => (some t1)
theorem impl_isId.calls (a0 : Int) (r : Bool) (w : World) (h : impl_isId.f a0 = some r) :
  Calls Tryz.prog 59 #[.int .i64 a0] w fun e w' => e = .returned (.bool r) ∧ Drawn0 w w' := by
 have H : ((impl_inRange.f a0 0 20).bind fun t1 => (some t1)) = some r := h
 clear h
 replace H := bi_ H; obtain ⟨t1, A2, H⟩ := H
 obtain rfl := Option.some.inj H
 go_enter Tryz.func59, Tryz.ntmps59
 go_wp2_with (first | ((with_reducible refine gq_ 63 4 ?_); refine gc_ 4 Tryz.func63 (impl_inRange.calls a0 0 20 t1 _ A2.out) ?_; rintro e w' ⟨rfl, ⟨nd, rfl⟩⟩; refine ⟨_, rfl, ?_⟩))
 go_ret
 exact ⟨e1_, dw_⟩
def IsS43 (w0 W : World) (g : Nat) (f0 : Int) (f1 : List ByteArray) (f2 : Int) (f3 : ByteArray) (f4 : List Int) (f5 : Int) (f6 : Int) (f7 : ByteArray) : Prop := ∃ A1 c1, ∃ A4 c4, W.heap[g]? = some (.cells #[.int .i64 f0, .slice A1 f1.length c1, .int .i64 f2, .string f3, .slice A4 f4.length c4, .int .i64 f5, .int .i64 f6, .string f7] 43 (0, 0)) ∧ w0.heap.size ≤ g ∧ Kd.C Kd.string w0 A1 f1.length f1 ∧ Kd.C (Kd.int .u8) w0 A4 f4.length f4 ∧ f1.length ≤ c1 ∧ f4.length ≤ c4
theorem IsS43.grown {w0 W : World} {g : Nat} {f0 : Int} {f1 : List ByteArray} {f2 : Int} {f3 : ByteArray} {f4 : List Int} {f5 : Int} {f6 : Int} {f7 : ByteArray} {W1 : World} {row : Option Nat} (h : IsS43 w0 W g f0 f1 f2 f3 f4 f5 f6 f7) (hw : W.grownBy W1 row) (hne : some g ≠ row) : IsS43 w0 W1 g f0 f1 f2 f3 f4 f5 f6 f7 := by
 obtain ⟨A1, c1, A4, c4, hb, hg, hr1, hr4, hq1, hq4⟩ := h
 exact ⟨A1, c1, A4, c4, blk_grown hb hw hne, hg, hr1, hr4, hq1, hq4⟩
theorem IsS43.kept {w0 W : World} {g : Nat} {f0 : Int} {f1 : List ByteArray} {f2 : Int} {f3 : ByteArray} {f4 : List Int} {f5 : Int} {f6 : Int} {f7 : ByteArray} {W1 : World} {S : Nat → Prop} (h : IsS43 w0 W g f0 f1 f2 f3 f4 f5 f6 f7) (hk : Kept W W1 S) (hne : ¬ S g) : IsS43 w0 W1 g f0 f1 f2 f3 f4 f5 f6 f7 := by
 obtain ⟨A1, c1, A4, c4, hb, hg, hr1, hr4, hq1, hq4⟩ := h
 exact ⟨A1, c1, A4, c4, blk_kept hb hk hne, hg, hr1, hr4, hq1, hq4⟩
theorem IsS43.below {w0 W : World} {g : Nat} {f0 : Int} {f1 : List ByteArray} {f2 : Int} {f3 : ByteArray} {f4 : List Int} {f5 : Int} {f6 : Int} {f7 : ByteArray} {W1 : World} (h : IsS43 w0 W g f0 f1 f2 f3 f4 f5 f6 f7) (hw : Below W.heap.size W W1) : IsS43 w0 W1 g f0 f1 f2 f3 f4 f5 f6 f7 := h.grown (grown_of_below hw none) (by simp)
theorem IsS43.alloc {w0 W : World} {g : Nat} {f0 : Int} {f1 : List ByteArray} {f2 : Int} {f3 : ByteArray} {f4 : List Int} {f5 : Int} {f6 : Int} {f7 : ByteArray} (h : IsS43 w0 W g f0 f1 f2 f3 f4 f5 f6 f7) (o : Obj) : IsS43 w0 (W.alloc o) g f0 f1 f2 f3 f4 f5 f6 f7 := h.below (below_alloc (Below.refl _ _) o)
theorem IsS43.drewN {w0 W : World} {g : Nat} {f0 : Int} {f1 : List ByteArray} {f2 : Int} {f3 : ByteArray} {f4 : List Int} {f5 : Int} {f6 : Int} {f7 : ByteArray} (h : IsS43 w0 W g f0 f1 f2 f3 f4 f5 f6 f7) (m : Nat) : IsS43 w0 (W.drewN m) g f0 f1 f2 f3 f4 f5 f6 f7 := h
theorem IsS43.drew {w0 W : World} {g : Nat} {f0 : Int} {f1 : List ByteArray} {f2 : Int} {f3 : ByteArray} {f4 : List Int} {f5 : Int} {f6 : Int} {f7 : ByteArray} (h : IsS43 w0 W g f0 f1 f2 f3 f4 f5 f6 f7) : IsS43 w0 W.drew g f0 f1 f2 f3 f4 f5 f6 f7 := h
theorem IsS43.at_ {w0 W : World} {g : Nat} {f0 : Int} {f1 : List ByteArray} {f2 : Int} {f3 : ByteArray} {f4 : List Int} {f5 : Int} {f6 : Int} {f7 : ByteArray} {w' : World} {m : Nat} (hq : W.drewN m = w') (h : IsS43 w0 W g f0 f1 f2 f3 f4 f5 f6 f7) : IsS43 w0 w' g f0 f1 f2 f3 f4 f5 f6 f7 := by subst hq; exact IsS43.drewN h m
theorem IsS43.apart {w0 W : World} {g : Nat} {f0 : Int} {f1 : List ByteArray} {f2 : Int} {f3 : ByteArray} {f4 : List Int} {f5 : Int} {f6 : Int} {f7 : ByteArray} {α : Type} {d : Kd α} {e : Nat} {base : Nat} {ok : Nat → Prop} {v : Value} {xs : List α} (h : IsS43 w0 W g f0 f1 f2 f3 f4 f5 f6 f7) (ho : d.R e W base ok v xs) (ht : ∀ q, q ∈ e :: d.E → q ≠ 43) : d.R e W base (fun k => ok k ∧ k ≠ g) v xs := by
 obtain ⟨A1, c1, A4, c4, hb, hg, hr1, hr4, hq1, hq4⟩ := h
 exact Kd.R_types ho hb ht
theorem IsS43.own_ne {w0 W : World} {g : Nat} {f0 : Int} {f1 : List ByteArray} {f2 : Int} {f3 : ByteArray} {f4 : List Int} {f5 : Int} {f6 : Int} {f7 : ByteArray} {α : Type} {d : Kd α} {e : Nat} {base : Nat} {ok : Nat → Prop} {v : Value} {xs : List α} (h : IsS43 w0 W g f0 f1 f2 f3 f4 f5 f6 f7) (ho : d.R e W base ok v xs) (ht : e ≠ 43) : some g ≠ v.ownBlock := by
 obtain ⟨A1, c1, A4, c4, hb, hg, hr1, hr4, hq1, hq4⟩ := h
 exact Kd.R_ne ho hb ht
theorem IsS43.lt {w0 W : World} {g : Nat} {f0 : Int} {f1 : List ByteArray} {f2 : Int} {f3 : ByteArray} {f4 : List Int} {f5 : Int} {f6 : Int} {f7 : ByteArray} (h : IsS43 w0 W g f0 f1 f2 f3 f4 f5 f6 f7) : g < W.heap.size := by
 obtain ⟨A1, c1, A4, c4, hb, hg, hr1, hr4, hq1, hq4⟩ := h
 exact blk_lt hb
theorem IsS43.ge {w0 W : World} {g : Nat} {f0 : Int} {f1 : List ByteArray} {f2 : Int} {f3 : ByteArray} {f4 : List Int} {f5 : Int} {f6 : Int} {f7 : ByteArray} (h : IsS43 w0 W g f0 f1 f2 f3 f4 f5 f6 f7) : w0.heap.size ≤ g := by
 obtain ⟨A1, c1, A4, c4, hb, hg, hr1, hr4, hq1, hq4⟩ := h
 exact hg
theorem IsS43.ne_blk {w0 W : World} {g : Nat} {f0 : Int} {f1 : List ByteArray} {f2 : Int} {f3 : ByteArray} {f4 : List Int} {f5 : Int} {f6 : Int} {f7 : ByteArray} {a : Nat} {cs : Array Value} {t : TypeId} {fr : Nat × Nat} (h : IsS43 w0 W g f0 f1 f2 f3 f4 f5 f6 f7) (hb2 : W.heap[a]? = some (.cells cs t fr)) (ht : t ≠ 43) : g ≠ a := by
 obtain ⟨A1, c1, A4, c4, hb, hg, hr1, hr4, hq1, hq4⟩ := h
 rintro rfl
 rw [hb] at hb2
 injection hb2 with hb2
 injection hb2 with _ ht2
 exact ht ht2.symm
theorem IsS43.far {w0 W : World} {g : Nat} {f0 : Int} {f1 : List ByteArray} {f2 : Int} {f3 : ByteArray} {f4 : List Int} {f5 : Int} {f6 : Int} {f7 : ByteArray} {p : Addr} (h : IsS43 w0 W g f0 f1 f2 f3 f4 f5 f6 f7) (hne : g ≠ p.block) (u : Value) : IsS43 w0 (W.setCell p u) g f0 f1 f2 f3 f4 f5 f6 f7 := by
 obtain ⟨A1, c1, A4, c4, hb, hg, hr1, hr4, hq1, hq4⟩ := h
 exact ⟨A1, c1, A4, c4, blk_far hb hne u, hg, hr1, hr4, hq1, hq4⟩
theorem cellS43_0 {W : World} {g : Nat} {A1 : Option Addr} {c1 : Nat} {A4 : Option Addr} {c4 : Nat} {f0 : Int} {f1 : List ByteArray} {f2 : Int} {f3 : ByteArray} {f4 : List Int} {f5 : Int} {f6 : Int} {f7 : ByteArray} (h : W.heap[g]? = some (.cells #[.int .i64 f0, .slice A1 f1.length c1, .int .i64 f2, .string f3, .slice A4 f4.length c4, .int .i64 f5, .int .i64 f6, .string f7] 43 (0, 0))) : W.cell? ⟨g, 0, none⟩ = some (.int .i64 f0) := (blk_cell h 0).trans rfl
theorem IsS43.set_0 {w0 W : World} {g : Nat} {f0 : Int} {f1 : List ByteArray} {f2 : Int} {f3 : ByteArray} {f4 : List Int} {f5 : Int} {f6 : Int} {f7 : ByteArray} (h : IsS43 w0 W g f0 f1 f2 f3 f4 f5 f6 f7) (x : Int) : IsS43 w0 (W.setCell ⟨g, 0, none⟩ (.int .i64 x)) g x f1 f2 f3 f4 f5 f6 f7 := by
 obtain ⟨A1, c1, A4, c4, hb, hg, hr1, hr4, hq1, hq4⟩ := h
 exact ⟨A1, c1, A4, c4, by simpa using blk_set hb 0 (.int .i64 x), hg, hr1, hr4, hq1, hq4⟩
theorem cellS43_1 {W : World} {g : Nat} {A1 : Option Addr} {c1 : Nat} {A4 : Option Addr} {c4 : Nat} {f0 : Int} {f1 : List ByteArray} {f2 : Int} {f3 : ByteArray} {f4 : List Int} {f5 : Int} {f6 : Int} {f7 : ByteArray} (h : W.heap[g]? = some (.cells #[.int .i64 f0, .slice A1 f1.length c1, .int .i64 f2, .string f3, .slice A4 f4.length c4, .int .i64 f5, .int .i64 f6, .string f7] 43 (0, 0))) : W.cell? ⟨g, 1, none⟩ = some (.slice A1 f1.length c1) := (blk_cell h 1).trans rfl
theorem cellS43_2 {W : World} {g : Nat} {A1 : Option Addr} {c1 : Nat} {A4 : Option Addr} {c4 : Nat} {f0 : Int} {f1 : List ByteArray} {f2 : Int} {f3 : ByteArray} {f4 : List Int} {f5 : Int} {f6 : Int} {f7 : ByteArray} (h : W.heap[g]? = some (.cells #[.int .i64 f0, .slice A1 f1.length c1, .int .i64 f2, .string f3, .slice A4 f4.length c4, .int .i64 f5, .int .i64 f6, .string f7] 43 (0, 0))) : W.cell? ⟨g, 2, none⟩ = some (.int .i64 f2) := (blk_cell h 2).trans rfl
theorem IsS43.set_2 {w0 W : World} {g : Nat} {f0 : Int} {f1 : List ByteArray} {f2 : Int} {f3 : ByteArray} {f4 : List Int} {f5 : Int} {f6 : Int} {f7 : ByteArray} (h : IsS43 w0 W g f0 f1 f2 f3 f4 f5 f6 f7) (x : Int) : IsS43 w0 (W.setCell ⟨g, 2, none⟩ (.int .i64 x)) g f0 f1 x f3 f4 f5 f6 f7 := by
 obtain ⟨A1, c1, A4, c4, hb, hg, hr1, hr4, hq1, hq4⟩ := h
 exact ⟨A1, c1, A4, c4, by simpa using blk_set hb 2 (.int .i64 x), hg, hr1, hr4, hq1, hq4⟩
theorem cellS43_3 {W : World} {g : Nat} {A1 : Option Addr} {c1 : Nat} {A4 : Option Addr} {c4 : Nat} {f0 : Int} {f1 : List ByteArray} {f2 : Int} {f3 : ByteArray} {f4 : List Int} {f5 : Int} {f6 : Int} {f7 : ByteArray} (h : W.heap[g]? = some (.cells #[.int .i64 f0, .slice A1 f1.length c1, .int .i64 f2, .string f3, .slice A4 f4.length c4, .int .i64 f5, .int .i64 f6, .string f7] 43 (0, 0))) : W.cell? ⟨g, 3, none⟩ = some (.string f3) := (blk_cell h 3).trans rfl
theorem IsS43.set_3 {w0 W : World} {g : Nat} {f0 : Int} {f1 : List ByteArray} {f2 : Int} {f3 : ByteArray} {f4 : List Int} {f5 : Int} {f6 : Int} {f7 : ByteArray} (h : IsS43 w0 W g f0 f1 f2 f3 f4 f5 f6 f7) (x : ByteArray) : IsS43 w0 (W.setCell ⟨g, 3, none⟩ (.string x)) g f0 f1 f2 x f4 f5 f6 f7 := by
 obtain ⟨A1, c1, A4, c4, hb, hg, hr1, hr4, hq1, hq4⟩ := h
 exact ⟨A1, c1, A4, c4, by simpa using blk_set hb 3 (.string x), hg, hr1, hr4, hq1, hq4⟩
theorem cellS43_4 {W : World} {g : Nat} {A1 : Option Addr} {c1 : Nat} {A4 : Option Addr} {c4 : Nat} {f0 : Int} {f1 : List ByteArray} {f2 : Int} {f3 : ByteArray} {f4 : List Int} {f5 : Int} {f6 : Int} {f7 : ByteArray} (h : W.heap[g]? = some (.cells #[.int .i64 f0, .slice A1 f1.length c1, .int .i64 f2, .string f3, .slice A4 f4.length c4, .int .i64 f5, .int .i64 f6, .string f7] 43 (0, 0))) : W.cell? ⟨g, 4, none⟩ = some (.slice A4 f4.length c4) := (blk_cell h 4).trans rfl
theorem cellS43_5 {W : World} {g : Nat} {A1 : Option Addr} {c1 : Nat} {A4 : Option Addr} {c4 : Nat} {f0 : Int} {f1 : List ByteArray} {f2 : Int} {f3 : ByteArray} {f4 : List Int} {f5 : Int} {f6 : Int} {f7 : ByteArray} (h : W.heap[g]? = some (.cells #[.int .i64 f0, .slice A1 f1.length c1, .int .i64 f2, .string f3, .slice A4 f4.length c4, .int .i64 f5, .int .i64 f6, .string f7] 43 (0, 0))) : W.cell? ⟨g, 5, none⟩ = some (.int .i64 f5) := (blk_cell h 5).trans rfl
theorem IsS43.set_5 {w0 W : World} {g : Nat} {f0 : Int} {f1 : List ByteArray} {f2 : Int} {f3 : ByteArray} {f4 : List Int} {f5 : Int} {f6 : Int} {f7 : ByteArray} (h : IsS43 w0 W g f0 f1 f2 f3 f4 f5 f6 f7) (x : Int) : IsS43 w0 (W.setCell ⟨g, 5, none⟩ (.int .i64 x)) g f0 f1 f2 f3 f4 x f6 f7 := by
 obtain ⟨A1, c1, A4, c4, hb, hg, hr1, hr4, hq1, hq4⟩ := h
 exact ⟨A1, c1, A4, c4, by simpa using blk_set hb 5 (.int .i64 x), hg, hr1, hr4, hq1, hq4⟩
theorem cellS43_6 {W : World} {g : Nat} {A1 : Option Addr} {c1 : Nat} {A4 : Option Addr} {c4 : Nat} {f0 : Int} {f1 : List ByteArray} {f2 : Int} {f3 : ByteArray} {f4 : List Int} {f5 : Int} {f6 : Int} {f7 : ByteArray} (h : W.heap[g]? = some (.cells #[.int .i64 f0, .slice A1 f1.length c1, .int .i64 f2, .string f3, .slice A4 f4.length c4, .int .i64 f5, .int .i64 f6, .string f7] 43 (0, 0))) : W.cell? ⟨g, 6, none⟩ = some (.int .i64 f6) := (blk_cell h 6).trans rfl
theorem IsS43.set_6 {w0 W : World} {g : Nat} {f0 : Int} {f1 : List ByteArray} {f2 : Int} {f3 : ByteArray} {f4 : List Int} {f5 : Int} {f6 : Int} {f7 : ByteArray} (h : IsS43 w0 W g f0 f1 f2 f3 f4 f5 f6 f7) (x : Int) : IsS43 w0 (W.setCell ⟨g, 6, none⟩ (.int .i64 x)) g f0 f1 f2 f3 f4 f5 x f7 := by
 obtain ⟨A1, c1, A4, c4, hb, hg, hr1, hr4, hq1, hq4⟩ := h
 exact ⟨A1, c1, A4, c4, by simpa using blk_set hb 6 (.int .i64 x), hg, hr1, hr4, hq1, hq4⟩
theorem cellS43_7 {W : World} {g : Nat} {A1 : Option Addr} {c1 : Nat} {A4 : Option Addr} {c4 : Nat} {f0 : Int} {f1 : List ByteArray} {f2 : Int} {f3 : ByteArray} {f4 : List Int} {f5 : Int} {f6 : Int} {f7 : ByteArray} (h : W.heap[g]? = some (.cells #[.int .i64 f0, .slice A1 f1.length c1, .int .i64 f2, .string f3, .slice A4 f4.length c4, .int .i64 f5, .int .i64 f6, .string f7] 43 (0, 0))) : W.cell? ⟨g, 7, none⟩ = some (.string f7) := (blk_cell h 7).trans rfl
theorem IsS43.set_7 {w0 W : World} {g : Nat} {f0 : Int} {f1 : List ByteArray} {f2 : Int} {f3 : ByteArray} {f4 : List Int} {f5 : Int} {f6 : Int} {f7 : ByteArray} (h : IsS43 w0 W g f0 f1 f2 f3 f4 f5 f6 f7) (x : ByteArray) : IsS43 w0 (W.setCell ⟨g, 7, none⟩ (.string x)) g f0 f1 f2 f3 f4 f5 f6 x := by
 obtain ⟨A1, c1, A4, c4, hb, hg, hr1, hr4, hq1, hq4⟩ := h
 exact ⟨A1, c1, A4, c4, by simpa using blk_set hb 7 (.string x), hg, hr1, hr4, hq1, hq4⟩
theorem IsS43.new (w0 W : World) (A1 : Option Addr) (c1 : Nat) (A4 : Option Addr) (c4 : Nat) (f0 : Int) (f1 : List ByteArray) (f2 : Int) (f3 : ByteArray) (f4 : List Int) (f5 : Int) (f6 : Int) (f7 : ByteArray) (hB : Below w0.heap.size w0 W) (hr1 : Kd.C Kd.string w0 A1 f1.length f1) (hr4 : Kd.C (Kd.int .u8) w0 A4 f4.length f4) (hq1 : f1.length ≤ c1) (hq4 : f4.length ≤ c4) : IsS43 w0 (W.alloc (.cells #[.int .i64 f0, .slice A1 f1.length c1, .int .i64 f2, .string f3, .slice A4 f4.length c4, .int .i64 f5, .int .i64 f6, .string f7] 43)) W.heap.size f0 f1 f2 f3 f4 f5 f6 f7 := ⟨A1, c1, A4, c4, by simpa using heap_alloc_new W _, hB.size, hr1, hr4, hq1, hq4⟩
theorem in43_ {w0 w1 w2 : World} {g : Nat} {f0 : Int} {f1 : List ByteArray} {f2 : Int} {f3 : ByteArray} {f4 : List Int} {f5 : Int} {f6 : Int} {f7 : ByteArray} {f02 : Int} {f12 : List ByteArray} {f22 : Int} {f32 : ByteArray} {f42 : List Int} {f52 : Int} {f62 : Int} {f72 : ByteArray} (h : Aside0 (IsS43 w0 w1 g f0 f1 f2 f3 f4 f5 f6 f7)) (f : IsS43 w0 w1 g f0 f1 f2 f3 f4 f5 f6 f7 → IsS43 w0 w2 g f02 f12 f22 f32 f42 f52 f62 f72 := by intro h_; repeat (first | (with_reducible first | exact h_ | apply IsS43.alloc | apply IsS43.drewN | apply IsS43.drew | apply IsS43.set_0 | apply IsS43.set_2 | apply IsS43.set_3 | apply IsS43.set_5 | apply IsS43.set_6 | apply IsS43.set_7 | refine IsS43.far ?_ (Aside0.out (by assumption)) _) | exact h_)) : IsS43 w0 w2 g f02 f12 f22 f32 f42 f52 f62 f72 := f h.out
theorem bi43_ {w w1 w2 : World} (h : Aside0 (Below w.heap.size w w1)) (g : Below w.heap.size w w1 → Below w.heap.size w w2 := by intro h_; repeat (first | (with_reducible first | exact h_ | apply below_alloc | apply pw_below_drewN | apply below_drew1 | refine below_set ?_ (Aside0.out (by assumption)) | refine below_set ?_ (IsS43.ge (Aside0.out (by assumption)))) | exact h_)) : Below w.heap.size w w2 := g h.out
def impl_Mirror_isOther.f (s0_0 : Int) (s0_1 : List ByteArray) (s0_2 : Int) (s0_3 : ByteArray) (s0_4 : List Int) (s0_5 : Int) (s0_6 : Int) (s0_7 : ByteArray) (a1 : Int) : Option (Bool × Int × Int × ByteArray × Int × Int × ByteArray) := (impl_isId.f a1).bind fun t1 => (if t1 = true then (some ((a1 != s0_0), s0_0, s0_2, s0_3, s0_5, s0_6, s0_7)) else (some (false, s0_0, s0_2, s0_3, s0_5, s0_6, s0_7)))
theorem impl_Mirror_isOther.calls (g : Nat) (s0_0 : Int) (s0_1 : List ByteArray) (s0_2 : Int) (s0_3 : ByteArray) (s0_4 : List Int) (s0_5 : Int) (s0_6 : Int) (s0_7 : ByteArray) (a1 : Int) (r1 : Bool) (r2 : Int) (r3 : Int) (r4 : ByteArray) (r5 : Int) (r6 : Int) (r7 : ByteArray) (w0 w : World) (hI : IsS43 w0 w g s0_0 s0_1 s0_2 s0_3 s0_4 s0_5 s0_6 s0_7) (hB : Below w0.heap.size w0 w) (h : impl_Mirror_isOther.f s0_0 s0_1 s0_2 s0_3 s0_4 s0_5 s0_6 s0_7 a1 = some (r1, r2, r3, r4, r5, r6, r7)) :
  Calls Tryz.prog 79 #[.pointer (some ⟨g, 0, none⟩), .int .i64 a1] w fun e w' => e = .returned (.bool r1) ∧ IsS43 w0 w' g r2 s0_1 r3 r4 s0_4 r5 r6 r7 ∧ Below w0.heap.size w0 w' ∧ KeepBut w w' g none := by
 have HI0 := am_ hI
 have HK := am_ (KeepBut.refl w g none)
 have HL := am_ hB.size
 clear hI
 have HW0 := am_ hB.size
 have HB := am_ hB
 clear hB
 have H : ((impl_isId.f a1).bind fun t1 => (if t1 = true then (some ((a1 != s0_0), s0_0, s0_2, s0_3, s0_5, s0_6, s0_7)) else (some (false, s0_0, s0_2, s0_3, s0_5, s0_6, s0_7)))) = some (r1, r2, r3, r4, r5, r6, r7) := h
 clear h
 replace H := bi_ H; obtain ⟨t1, A3, H⟩ := H
 replace H := itb_ H; obtain ⟨rfl, H⟩ | ⟨rfl, H⟩ := H
 ·replace H := so7_ H; obtain ⟨rfl, rfl, rfl, rfl, rfl, rfl, rfl⟩ := H
  go_enter Tryz.func79, Tryz.ntmps79
  go_wp2_with (first | ((with_reducible refine gq_ 59 6 ?_); refine gc_ 6 Tryz.func59 (impl_isId.calls a1 true _ A3.out) ?_; rintro e w' ⟨rfl, ⟨nd, rfl⟩⟩; refine ⟨_, rfl, ?_⟩; obtain ⟨ASz5_1, cSz5_1, ASz5_4, cSz5_4, HGz5, hgz5, HSz5_1, HSz5_4, HSQz5_1, HSQz5_4⟩ := HI0.out; have hcz5_0 := cellS43_0 HGz5; have hcz5_1 := cellS43_1 HGz5; have hcz5_2 := cellS43_2 HGz5; have hcz5_3 := cellS43_3 HGz5; have hcz5_4 := cellS43_4 HGz5; have hcz5_5 := cellS43_5 HGz5; have hcz5_6 := cellS43_6 HGz5; have hcz5_7 := cellS43_7 HGz5; have hfz5_0 := blk_frozen HGz5 0; have hfz5_2 := blk_frozen HGz5 2; have hfz5_3 := blk_frozen HGz5 3; have hfz5_5 := blk_frozen HGz5 5; have hfz5_6 := blk_frozen HGz5 6; have hfz5_7 := blk_frozen HGz5 7; clear HGz5 hgz5))
  go_ret
  exact ⟨e2_, in43_ HI0, bi43_ HB, kn_ HK⟩
 ·replace H := so7_ H; obtain ⟨rfl, rfl, rfl, rfl, rfl, rfl, rfl⟩ := H
  go_enter Tryz.func79, Tryz.ntmps79
  go_wp2_with (first | ((with_reducible refine gq_ 59 6 ?_); refine gc_ 6 Tryz.func59 (impl_isId.calls a1 false _ A3.out) ?_; rintro e w' ⟨rfl, ⟨nd, rfl⟩⟩; refine ⟨_, rfl, ?_⟩))
  go_ret
  exact ⟨e2_, in43_ HI0, bi43_ HB, kn_ HK⟩
theorem IsS43.called {w0 W : World} {g : Nat} {f0 : Int} {f1 : List ByteArray} {f2 : Int} {f3 : ByteArray} {f4 : List Int} {f5 f6 : Int} {f7 : ByteArray} {P : Program} {f_ : FuncId} {as_ : Array Value} {Q_ : Ending → World → Prop} (h : IsS43 w0 W g f0 f1 f2 f3 f4 f5 f6 f7) (k : Aside0 (IsS43 w0 W g f0 f1 f2 f3 f4 f5 f6 f7) → Calls P f_ as_ W Q_) : Calls P f_ as_ W Q_ := k ⟨h⟩
theorem isOther_same {a : Int} {l : List ByteArray} {b : Int} {c : ByteArray} {d : List Int} {e f : Int} {g : ByteArray} {x : Int} {r1 : Bool} {r2 r3 : Int} {r4 : ByteArray} {r5 r6 : Int} {r7 : ByteArray} (h : impl_Mirror_isOther.f a l b c d e f g x = some (r1, r2, r3, r4, r5, r6, r7)) : r2 = a ∧ r3 = b ∧ r4 = c ∧ r5 = e ∧ r6 = f ∧ r7 = g := by
 unfold impl_Mirror_isOther.f at h
 obtain ⟨t, _, h⟩ := Option.bind_eq_some_iff.mp h
 by_cases ht : t = true
 ·rw [if_pos ht] at h
  simp only [Option.some.injEq, Prod.mk.injEq] at h
  obtain ⟨_, rfl, rfl, rfl, rfl, rfl, rfl⟩ := h
  exact ⟨rfl, rfl, rfl, rfl, rfl, rfl⟩
 ·rw [if_neg ht] at h
  simp only [Option.some.injEq, Prod.mk.injEq] at h
  obtain ⟨_, rfl, rfl, rfl, rfl, rfl, rfl⟩ := h
  exact ⟨rfl, rfl, rfl, rfl, rfl, rfl⟩
def impl_Mirror_gossip.f (a : Int) (l : List ByteArray) (b : Int) (c : ByteArray) (d : List Int) (e f : Int) (g : ByteArray) (x : Int) : Option (List S65 × Int × Int × ByteArray × Int × Int × ByteArray) :=
 (impl_Mirror_isOther.f a l b c d e f g x).bind fun t => (if t.1 = true then some ([(⟨1, a, x, (⟨f, g⟩ : S37), 0, ([] : List ByteArray)⟩ : S65)], a, b, c, e, f, g) else some ([], a, b, c, e, f, g))
theorem impl_Mirror_gossip.calls (g : Nat) (s0_0 : Int) (s0_1 : List ByteArray) (s0_2 : Int) (s0_3 : ByteArray) (s0_4 : List Int) (s0_5 : Int) (s0_6 : Int) (s0_7 : ByteArray) (a1 : Int) (r1 : List S65) (r2 : Int) (r3 : Int) (r4 : ByteArray) (r5 : Int) (r6 : Int) (r7 : ByteArray) (w0 w : World) (hI : IsS43 w0 w g s0_0 s0_1 s0_2 s0_3 s0_4 s0_5 s0_6 s0_7) (hB : Below w0.heap.size w0 w) (h : impl_Mirror_gossip.f s0_0 s0_1 s0_2 s0_3 s0_4 s0_5 s0_6 s0_7 a1 = some (r1, r2, r3, r4, r5, r6, r7)) :
  Calls Tryz.prog 68 #[.pointer (some ⟨g, 0, none⟩), .int .i64 a1] w fun e w' => ∃ v0_ : Value, e = .returned (v0_) ∧ Kd.S k65 65 w' w.heap.size (fun _ => True) v0_ r1 ∧ IsS43 w0 w' g r2 s0_1 r3 r4 s0_4 r5 r6 r7 ∧ Below w0.heap.size w0 w' ∧ KeepBut w w' g none := by
 have hu65 := Tryz.underlying65
 have hu43 := Tryz.underlying43
 have hu37 := Tryz.underlying37
 have HI := am_ hI
 have HB := am_ hB
 have HK := am_ (KeepBut.refl w g none)
 have HW := am_ (Nat.le_refl w.heap.size)
 unfold impl_Mirror_gossip.f at h
 obtain ⟨⟨q1, q2, q3, q4, q5, q6, q7⟩, A0, h⟩ := Option.bind_eq_some_iff.mp h
 have AO := am_ A0
 clear hI hB A0
 obtain ⟨rfl, rfl, rfl, rfl, rfl, rfl⟩ := isOther_same AO.out
 dsimp only at h
 cases q1 with
 | false =>
  rw [if_neg (by decide)] at h
  simp only [Option.some.injEq, Prod.mk.injEq] at h
  obtain ⟨rfl, rfl, rfl, rfl, rfl, rfl, rfl⟩ := h
  go_enter Tryz.func68, Tryz.ntmps68
  go_wp2_with (first | ((with_reducible refine gq_ 79 7 ?_); refine gc_ 7 Tryz.func79 (impl_Mirror_isOther.calls g _ _ _ _ _ _ _ _ _ _ _ _ _ _ _ _ w0 _ HI.out HB.out AO.out) ?_; rintro e w1 ⟨rfl, hi, hb, hk⟩; refine ⟨_, rfl, ?_⟩; replace HI := am_ hi; replace HB := am_ hb; replace HK := am_ (HK.out.trans hk (.inl rfl)); clear hi hb hk))
  go_ret
  exact ⟨_, rfl, Kd.S_nil _ _ _ _ _, HI.out, HB.out, HK.out⟩
 | true =>
  rw [if_pos rfl] at h
  simp only [Option.some.injEq, Prod.mk.injEq] at h
  obtain ⟨rfl, rfl, rfl, rfl, rfl, rfl, rfl⟩ := h
  go_enter Tryz.func68, Tryz.ntmps68
  go_wp2_with (first | ((with_reducible refine gq_ 79 7 ?_); refine gc_ 7 Tryz.func79 (impl_Mirror_isOther.calls g _ _ _ _ _ _ _ _ _ _ _ _ _ _ _ _ w0 _ HI.out HB.out AO.out) ?_; rintro e w1 ⟨rfl, hi, hb, hk⟩; refine ⟨_, rfl, ?_⟩; replace HI := am_ hi; replace HB := am_ hb; replace HK := am_ (HK.out.trans hk (.inl rfl)); clear hi hb hk))
  replace HI := am_ (HI.out.drew)
  replace HB := hd_ HB
  replace HK := am_ (keep_drew HK.out)
  obtain ⟨A1, c1, A4, c4, hb, hg, hr1, hr4, hq1, hq4⟩ := HI.out
  have BK := am_ hb
  clear hb
  have hz0 := cellS43_0 BK.out
  have hz6 := cellS43_6 BK.out
  have hz7 := cellS43_7 BK.out
  refine start_ (n := 12) (S := fun w' => w'.cell? ⟨g, 0, none⟩ = some (.int .i64 q2) ∧ w'.cell? ⟨g, 6, none⟩ = some (.int .i64 q6) ∧ w'.cell? ⟨g, 7, none⟩ = some (.string q7)) (ds := []) (lz_ 12 0) (by kernel_rfl) rfl rfl ⟨hz0, hz6, hz7⟩ (fun hHeld => ?_)
  generalize w1.drew = w3 at HI HB HK BK hz0 hz6 hz7 hHeld ⊢
  refine pk_ 0 9 1 ?_
  refine pk_ 1 10 3 ?_
  refine pk_ 2 11 7 ?_
  refine pk_ 4 13 23 ?_
  refine pk_ 5 14 55 ?_
  refine pk_ 6 15 119 ?_
  refine pk_ 7 16 247 ?_
  refine tk_ 3 12 255 ?_
  refine tk_ 8 17 511 ?_
  refine pk_ 9 18 1023 ?_
  refine one_ (i := 10) (N := some 19) (lz_ 12 2047) rfl rfl (by kernel_rfl) (by decide) (fun K hK => ?_)
  have hsz := keep_size HK.out
  refine Kd.S_lit_step k65 w.heap.size 65 (w0 := w3) (by rfl) (N := 19) rfl (xs := [(⟨1, q2, a1, (⟨q6, q7⟩ : S37), 0, ([] : List ByteArray)⟩ : S65)]) (inner := [.int .i64 1, .int .i64 q2, .int .i64 a1, .int .i64 q6, .string q7, .int .i64 0, .slice none 0 0]) (ok := fun _ => True) (okp := fun _ => True) (by first | (go_simp; done) | (go_simp; rfl)) (Reps.c7 (show Kd.M k65 _ _ _ (⟨1, q2, a1, (⟨q6, q7⟩ : S37), 0, ([] : List ByteArray)⟩ : S65) [.int .i64 1, .int .i64 q2, .int .i64 a1, .int .i64 q6, .string q7, .int .i64 0, .slice none 0 0] from (k65_mkM _ _ _ (⟨1, q2, a1, (⟨q6, q7⟩ : S37), 0, ([] : List ByteArray)⟩ : S65) (Kd.R_nil _ _ _ _ _))) (Reps.none _ _)) (fun _ hk => hk) trivial (Below.refl _ _) hsz (by simp) ?_
  intro v1 w4 ho hb4 hgr hnew
  have HO := am_ ho
  have hk4 := KeepBut.of_grown hgr g
  have hI4 := HI.out.grown hgr (by simp)
  have hB4 : Below w0.heap.size w0 w4 := Below.grown HB.out hgr (below_size HB.out) (by simp)
  have hK4 := HK.out.trans hk4 (.inl rfl)
  have hz : w4.cell? ⟨g, 0, none⟩ = some (.int .i64 q2) ∧ w4.cell? ⟨g, 6, none⟩ = some (.int .i64 q6) ∧ w4.cell? ⟨g, 7, none⟩ = some (.string q7) := by
   obtain ⟨_, _, _, _, hb, _⟩ := hI4
   exact ⟨cellS43_0 hb, cellS43_6 hb, cellS43_7 hb⟩
  refine hK.out _ _ hz (fun hHeld => ?_)
  clear hK K
  refine no_ 19 ?_
  refine pk_ 11 4 4095 ?_
  refine done_ (by kernel_rfl) ?_
  try go_wp2
  go_ret
  exact ⟨_, rfl, HO.out, hI4, hB4, hK4⟩
def impl_Mirror_count.f (s0_0 : Int) (s0_1 : List ByteArray) (s0_2 : Int) (s0_3 : ByteArray) (s0_4 : List Int) (s0_5 : Int) (s0_6 : Int) (s0_7 : ByteArray) : Option (Int × Int × Int × ByteArray × Int × Int × ByteArray) := some ((s0_1.length : Int), s0_0, s0_2, s0_3, s0_5, s0_6, s0_7)
theorem impl_Mirror_count.calls (g : Nat) (s0_0 : Int) (s0_1 : List ByteArray) (s0_2 : Int) (s0_3 : ByteArray) (s0_4 : List Int) (s0_5 : Int) (s0_6 : Int) (s0_7 : ByteArray) (r1 : Int) (r2 : Int) (r3 : Int) (r4 : ByteArray) (r5 : Int) (r6 : Int) (r7 : ByteArray) (w0 w : World) (hI : IsS43 w0 w g s0_0 s0_1 s0_2 s0_3 s0_4 s0_5 s0_6 s0_7) (hB : Below w0.heap.size w0 w) (h : impl_Mirror_count.f s0_0 s0_1 s0_2 s0_3 s0_4 s0_5 s0_6 s0_7 = some (r1, r2, r3, r4, r5, r6, r7)) :
  Calls Tryz.prog 80 #[.pointer (some ⟨g, 0, none⟩)] w fun e w' => e = .returned (.int .i64 r1) ∧ IsS43 w0 w' g r2 s0_1 r3 r4 s0_4 r5 r6 r7 ∧ Below w0.heap.size w0 w' ∧ KeepBut w w' g none := by
 have HI0 := am_ hI
 have HK := am_ (KeepBut.refl w g none)
 have HL := am_ hB.size
 clear hI
 have HW0 := am_ hB.size
 have HB := am_ hB
 clear hB
 have H : (some ((s0_1.length : Int), s0_0, s0_2, s0_3, s0_5, s0_6, s0_7)) = some (r1, r2, r3, r4, r5, r6, r7) := h
 clear h
 replace H := so7_ H; obtain ⟨rfl, rfl, rfl, rfl, rfl, rfl, rfl⟩ := H
 obtain ⟨ASz2_1, cSz2_1, ASz2_4, cSz2_4, HGz2, hgz2, HSz2_1, HSz2_4, HSQz2_1, HSQz2_4⟩ := HI0.out
 have hcz2_0 := cellS43_0 HGz2
 have hcz2_1 := cellS43_1 HGz2
 have hcz2_2 := cellS43_2 HGz2
 have hcz2_3 := cellS43_3 HGz2
 have hcz2_4 := cellS43_4 HGz2
 have hcz2_5 := cellS43_5 HGz2
 have hcz2_6 := cellS43_6 HGz2
 have hcz2_7 := cellS43_7 HGz2
 have hfz2_0 := blk_frozen HGz2 0
 have hfz2_2 := blk_frozen HGz2 2
 have hfz2_3 := blk_frozen HGz2 3
 have hfz2_5 := blk_frozen HGz2 5
 have hfz2_6 := blk_frozen HGz2 6
 have hfz2_7 := blk_frozen HGz2 7
 clear HGz2 hgz2
 go_enter Tryz.func80, Tryz.ntmps80
 go_wp2
 go_ret
 exact ⟨e2_, in43_ HI0, bi43_ HB, kn_ HK⟩
def impl_Mirror_askFor.f (a : Int) (l : List ByteArray) (b : Int) (c : ByteArray) (d : List Int) (e f : Int) (g : ByteArray) (x : Int) : Option (List S65 × Int × Int × ByteArray × Int × Int × ByteArray) :=
 (impl_Mirror_isOther.f a l b c d e f g x).bind fun t => (if t.1 = true then (if f ≤ (l.length : Int) then some ([], a, b, c, e, f, g) else some ([(⟨2, a, x, (⟨f, g⟩ : S37), (l.length : Int), ([] : List ByteArray)⟩ : S65)], a, b, c, e, f, g)) else some ([], a, b, c, e, f, g))
theorem IsS43.c067 {w0 W : World} {g : Nat} {f0 : Int} {f1 : List ByteArray} {f2 : Int} {f3 : ByteArray} {f4 : List Int} {f5 : Int} {f6 : Int} {f7 : ByteArray} (h : IsS43 w0 W g f0 f1 f2 f3 f4 f5 f6 f7) : W.cell? ⟨g, 0, none⟩ = some (.int .i64 f0) ∧ W.cell? ⟨g, 6, none⟩ = some (.int .i64 f6) ∧ W.cell? ⟨g, 7, none⟩ = some (.string f7) := by
 obtain ⟨_, _, _, _, hb, _⟩ := h
 exact ⟨cellS43_0 hb, cellS43_6 hb, cellS43_7 hb⟩
theorem impl_Mirror_askFor.calls (g : Nat) (s0_0 : Int) (s0_1 : List ByteArray) (s0_2 : Int) (s0_3 : ByteArray) (s0_4 : List Int) (s0_5 : Int) (s0_6 : Int) (s0_7 : ByteArray) (a1 : Int) (r1 : List S65) (r2 : Int) (r3 : Int) (r4 : ByteArray) (r5 : Int) (r6 : Int) (r7 : ByteArray) (w0 w : World) (hI : IsS43 w0 w g s0_0 s0_1 s0_2 s0_3 s0_4 s0_5 s0_6 s0_7) (hB : Below w0.heap.size w0 w) (h : impl_Mirror_askFor.f s0_0 s0_1 s0_2 s0_3 s0_4 s0_5 s0_6 s0_7 a1 = some (r1, r2, r3, r4, r5, r6, r7)) :
  Calls Tryz.prog 43 #[.pointer (some ⟨g, 0, none⟩), .int .i64 a1] w fun e w' => ∃ v0_ : Value, e = .returned (v0_) ∧ Kd.S k65 65 w' w.heap.size (fun _ => True) v0_ r1 ∧ IsS43 w0 w' g r2 s0_1 r3 r4 s0_4 r5 r6 r7 ∧ Below w0.heap.size w0 w' ∧ KeepBut w w' g none := by
 have hu65 := Tryz.underlying65
 have hu43 := Tryz.underlying43
 have hu37 := Tryz.underlying37
 have HI := am_ hI
 have HB := am_ hB
 have HK := am_ (KeepBut.refl w g none)
 unfold impl_Mirror_askFor.f at h
 obtain ⟨⟨q1, q2, q3, q4, q5, q6, q7⟩, A0, h⟩ := Option.bind_eq_some_iff.mp h
 have AO := am_ A0
 clear hI hB A0
 obtain ⟨rfl, rfl, rfl, rfl, rfl, rfl⟩ := isOther_same AO.out
 dsimp only at h
 cases q1 with
 | false =>
  rw [if_neg (by decide)] at h
  simp only [Option.some.injEq, Prod.mk.injEq] at h
  obtain ⟨rfl, rfl, rfl, rfl, rfl, rfl, rfl⟩ := h
  go_enter Tryz.func43, Tryz.ntmps43
  try go_wp2
  replace HI := am_ (HI.out.drew)
  replace HB := hd_ HB
  replace HK := am_ (keep_drew HK.out)
  refine start_ (n := 14) (S := fun w' => w'.cell? ⟨g, 0, none⟩ = some (.int .i64 q2) ∧ w'.cell? ⟨g, 6, none⟩ = some (.int .i64 q6) ∧ w'.cell? ⟨g, 7, none⟩ = some (.string q7)) (ds := []) (lz_ 14 0) (by kernel_rfl) rfl rfl HI.out.c067 (fun hHeld => ?_)
  generalize w.drew = w3 at HI HB HK hHeld ⊢
  refine pk_ 0 5 1 ?_
  refine pk_ 1 6 3 ?_
  refine one_ (i := 2) (N := some 7) (lz_ 14 7) rfl rfl (by kernel_rfl) (by decide) (fun K hK => ?_)
  refine gf_ Tryz.func79 (impl_Mirror_isOther.calls g _ _ _ _ _ _ _ _ _ _ _ _ _ _ _ _ w0 _ HI.out HB.out AO.out) ?_
  rintro e w4 ⟨rfl, hi, hb, hk⟩
  refine ⟨_, rfl, ?_⟩
  replace HI := am_ hi
  replace HB := am_ hb
  replace HK := am_ (HK.out.trans hk (.inl rfl))
  clear hi hb hk
  refine hK.out _ _ HI.out.c067 (fun hHeld => ?_)
  clear hK K
  refine no_ 7 ?_
  refine pk_ 3 8 15 ?_
  refine pk_ 4 9 31 ?_
  refine uk_ 5 10 63 ?_
  refine uk_ 6 11 127 ?_
  refine uk_ 7 12 255 ?_
  refine uk_ 8 13 511 ?_
  refine uk_ 9 14 1023 ?_
  refine uk_ 10 15 2047 ?_
  refine uk_ 11 16 4095 ?_
  refine uk_ 12 17 8191 ?_
  refine pk_ 13 18 16383 ?_
  refine done_ (by kernel_rfl) ?_
  try go_wp2
  go_ret
  exact ⟨_, rfl, Kd.S_nil _ _ _ _ _, HI.out, HB.out, HK.out⟩
 | true =>
  rw [if_pos rfl] at h
  by_cases hle : q6 ≤ (s0_1.length : Int)
  ·rw [if_pos hle] at h
   simp only [Option.some.injEq, Prod.mk.injEq] at h
   obtain ⟨rfl, rfl, rfl, rfl, rfl, rfl, rfl⟩ := h
   have hd1 : decide (q6 ≤ (s0_1.length : Int)) = true := decide_eq_true hle
   go_enter Tryz.func43, Tryz.ntmps43
   try go_wp2
   replace HI := am_ (HI.out.drew)
   replace HB := hd_ HB
   replace HK := am_ (keep_drew HK.out)
   refine start_ (n := 14) (S := fun w' => w'.cell? ⟨g, 0, none⟩ = some (.int .i64 q2) ∧ w'.cell? ⟨g, 6, none⟩ = some (.int .i64 q6) ∧ w'.cell? ⟨g, 7, none⟩ = some (.string q7)) (ds := []) (lz_ 14 0) (by kernel_rfl) rfl rfl HI.out.c067 (fun hHeld => ?_)
   generalize w.drew = w3 at HI HB HK hHeld ⊢
   refine pk_ 0 5 1 ?_
   refine pk_ 1 6 3 ?_
   refine one_ (i := 2) (N := some 7) (lz_ 14 7) rfl rfl (by kernel_rfl) (by decide) (fun K hK => ?_)
   refine gf_ Tryz.func79 (impl_Mirror_isOther.calls g _ _ _ _ _ _ _ _ _ _ _ _ _ _ _ _ w0 _ HI.out HB.out AO.out) ?_
   rintro e w4 ⟨rfl, hi, hb, hk⟩
   refine ⟨_, rfl, ?_⟩
   replace HI := am_ hi
   replace HB := am_ hb
   replace HK := am_ (HK.out.trans hk (.inl rfl))
   clear hi hb hk
   refine hK.out _ _ HI.out.c067 (fun hHeld => ?_)
   clear hK K
   refine no_ 7 ?_
   refine pk_ 3 8 15 ?_
   refine pk_ 4 9 31 ?_
   refine pk_ 5 10 63 ?_
   refine pk_ 6 11 127 ?_
   refine pk_ 7 12 255 ?_
   refine pk_ 8 13 511 ?_
   refine pk_ 10 15 1535 ?_
   refine tk_ 9 14 2047 ?_
   refine one_ (i := 11) (N := some 16) (lz_ 14 4095) rfl rfl (by kernel_rfl) (by decide) (fun K hK => ?_)
   refine gf_ Tryz.func80 (impl_Mirror_count.calls g _ _ _ _ _ _ _ _ _ _ _ _ _ _ _ w0 _ HI.out HB.out rfl) ?_
   rintro e w5 ⟨rfl, hi, hb, hk⟩
   refine ⟨_, rfl, ?_⟩
   replace HI := am_ hi
   replace HB := am_ hb
   replace HK := am_ (HK.out.trans hk (.inl rfl))
   clear hi hb hk
   refine hK.out _ _ HI.out.c067 (fun hHeld => ?_)
   clear hK K
   refine no_ 16 ?_
   refine pk_ 12 17 8191 ?_
   refine pk_ 13 18 16383 ?_
   refine done_ (by kernel_rfl) ?_
   try go_wp2
   go_ret
   exact ⟨_, rfl, Kd.S_nil _ _ _ _ _, HI.out, HB.out, HK.out⟩
  ·rw [if_neg hle] at h
   simp only [Option.some.injEq, Prod.mk.injEq] at h
   obtain ⟨rfl, rfl, rfl, rfl, rfl, rfl, rfl⟩ := h
   have hd1 : decide (q6 ≤ (s0_1.length : Int)) = false := decide_eq_false hle
   go_enter Tryz.func43, Tryz.ntmps43
   try go_wp2
   replace HI := am_ (HI.out.drew)
   replace HB := hd_ HB
   replace HK := am_ (keep_drew HK.out)
   refine start_ (n := 14) (S := fun w' => w'.cell? ⟨g, 0, none⟩ = some (.int .i64 q2) ∧ w'.cell? ⟨g, 6, none⟩ = some (.int .i64 q6) ∧ w'.cell? ⟨g, 7, none⟩ = some (.string q7)) (ds := []) (lz_ 14 0) (by kernel_rfl) rfl rfl HI.out.c067 (fun hHeld => ?_)
   generalize w.drew = w3 at HI HB HK hHeld ⊢
   refine pk_ 0 5 1 ?_
   refine pk_ 1 6 3 ?_
   refine one_ (i := 2) (N := some 7) (lz_ 14 7) rfl rfl (by kernel_rfl) (by decide) (fun K hK => ?_)
   refine gf_ Tryz.func79 (impl_Mirror_isOther.calls g _ _ _ _ _ _ _ _ _ _ _ _ _ _ _ _ w0 _ HI.out HB.out AO.out) ?_
   rintro e w4 ⟨rfl, hi, hb, hk⟩
   refine ⟨_, rfl, ?_⟩
   replace HI := am_ hi
   replace HB := am_ hb
   replace HK := am_ (HK.out.trans hk (.inl rfl))
   clear hi hb hk
   refine hK.out _ _ HI.out.c067 (fun hHeld => ?_)
   clear hK K
   refine no_ 7 ?_
   refine pk_ 3 8 15 ?_
   refine pk_ 4 9 31 ?_
   refine pk_ 5 10 63 ?_
   refine pk_ 6 11 127 ?_
   refine pk_ 7 12 255 ?_
   refine pk_ 8 13 511 ?_
   refine pk_ 10 15 1535 ?_
   refine tk_ 9 14 2047 ?_
   refine one_ (i := 11) (N := some 16) (lz_ 14 4095) rfl rfl (by kernel_rfl) (by decide) (fun K hK => ?_)
   refine gf_ Tryz.func80 (impl_Mirror_count.calls g _ _ _ _ _ _ _ _ _ _ _ _ _ _ _ w0 _ HI.out HB.out rfl) ?_
   rintro e w5 ⟨rfl, hi, hb, hk⟩
   refine ⟨_, rfl, ?_⟩
   replace HI := am_ hi
   replace HB := am_ hb
   replace HK := am_ (HK.out.trans hk (.inl rfl))
   clear hi hb hk
   refine hK.out _ _ HI.out.c067 (fun hHeld => ?_)
   clear hK K
   refine no_ 16 ?_
   refine pk_ 12 17 8191 ?_
   refine pk_ 13 18 16383 ?_
   refine done_ (by kernel_rfl) ?_
   try go_wp2
   replace HI := am_ (HI.out.drew)
   replace HB := hd_ HB
   replace HK := am_ (keep_drew HK.out)
   refine start_ (n := 14) (S := fun w' => w'.cell? ⟨g, 0, none⟩ = some (.int .i64 q2) ∧ w'.cell? ⟨g, 6, none⟩ = some (.int .i64 q6) ∧ w'.cell? ⟨g, 7, none⟩ = some (.string q7)) (ds := []) (lz_ 14 0) (by kernel_rfl) rfl rfl HI.out.c067 (fun hHeld => ?_)
   generalize w5.drew = w6 at HI HB HK hHeld ⊢
   refine pk_ 0 19 1 ?_
   refine pk_ 1 20 3 ?_
   refine pk_ 2 21 7 ?_
   refine pk_ 4 23 23 ?_
   refine pk_ 5 24 55 ?_
   refine pk_ 6 25 119 ?_
   refine pk_ 7 26 247 ?_
   refine pk_ 9 28 759 ?_
   refine tk_ 3 22 767 ?_
   refine tk_ 8 27 1023 ?_
   refine one_ (i := 10) (N := some 29) (lz_ 14 2047) rfl rfl (by kernel_rfl) (by decide) (fun K hK => ?_)
   refine gf_ Tryz.func80 (impl_Mirror_count.calls g _ _ _ _ _ _ _ _ _ _ _ _ _ _ _ w0 _ HI.out HB.out rfl) ?_
   rintro e w7 ⟨rfl, hi, hb, hk⟩
   refine ⟨_, rfl, ?_⟩
   replace HI := am_ hi
   replace HB := am_ hb
   replace HK := am_ (HK.out.trans hk (.inl rfl))
   clear hi hb hk
   refine hK.out _ _ HI.out.c067 (fun hHeld => ?_)
   clear hK K
   refine no_ 29 ?_
   refine pk_ 11 30 4095 ?_
   refine one_ (i := 12) (N := some 31) (lz_ 14 8191) rfl rfl (by kernel_rfl) (by decide) (fun K hK => ?_)
   have hsz := keep_size HK.out
   refine Kd.S_lit_step k65 w.heap.size 65 (w0 := w7) (by rfl) (N := 31) rfl (xs := [(⟨2, q2, a1, (⟨q6, q7⟩ : S37), (s0_1.length : Int), ([] : List ByteArray)⟩ : S65)]) (inner := [.int .i64 2, .int .i64 q2, .int .i64 a1, .int .i64 q6, .string q7, .int .i64 (s0_1.length : Int), .slice none 0 0]) (ok := fun _ => True) (okp := fun _ => True) (by first | (go_simp; done) | (go_simp; rfl)) (Reps.c7 (show Kd.M k65 _ _ _ (⟨2, q2, a1, (⟨q6, q7⟩ : S37), (s0_1.length : Int), ([] : List ByteArray)⟩ : S65) [.int .i64 2, .int .i64 q2, .int .i64 a1, .int .i64 q6, .string q7, .int .i64 (s0_1.length : Int), .slice none 0 0] from (k65_mkM _ _ _ (⟨2, q2, a1, (⟨q6, q7⟩ : S37), (s0_1.length : Int), ([] : List ByteArray)⟩ : S65) (Kd.R_nil _ _ _ _ _))) (Reps.none _ _)) (fun _ hk => hk) trivial (Below.refl _ _) hsz (by simp) ?_
   intro v1 w8 ho hb4 hgr hnew
   have HO := am_ ho
   replace HI := am_ (HI.out.grown hgr (by simp))
   replace HB := am_ (Below.grown HB.out hgr (below_size HB.out) (by simp))
   replace HK := am_ (HK.out.trans (KeepBut.of_grown hgr g) (.inl rfl))
   refine hK.out _ _ HI.out.c067 (fun hHeld => ?_)
   clear hK K
   refine no_ 31 ?_
   refine pk_ 13 4 16383 ?_
   refine done_ (by kernel_rfl) ?_
   try go_wp2
   go_ret
   exact ⟨_, rfl, HO.out, HI.out, HB.out, HK.out⟩
def spec_l14To.f (a0_0 : Int) (l0_1 : List ByteArray) (a0_2 : Int) (a0_3 : ByteArray) (l0_4 : List Int) (a0_5 : Int) (a0_6 : Int) (a0_7 : ByteArray) (a1 : Int) : Option (Bool) := (spec_l1In.f a1 0 20).bind fun t602 => (if t602 = true then (some (a1 != a0_0)) else (some false))
theorem spec_l14To.calls (a0_0 : Int) (A0_1 : Option Addr) (c0_1 : Nat) (l0_1 : List ByteArray) (a0_2 : Int) (a0_3 : ByteArray) (A0_4 : Option Addr) (c0_4 : Nat) (l0_4 : List Int) (a0_5 : Int) (a0_6 : Int) (a0_7 : ByteArray) (a1 : Int) (r : Bool) (w : World) (hr0_1 : Kd.C Kd.string w A0_1 l0_1.length l0_1) (hc0_1 : l0_1.length ≤ c0_1) (hr0_4 : Kd.C (Kd.int .u8) w A0_4 l0_4.length l0_4) (hc0_4 : l0_4.length ≤ c0_4) (h : spec_l14To.f a0_0 l0_1 a0_2 a0_3 l0_4 a0_5 a0_6 a0_7 a1 = some r) :
  Calls Tryz.prog 76 #[.agg #[.int .i64 a0_0, .slice A0_1 l0_1.length c0_1, .int .i64 a0_2, .string a0_3, .slice A0_4 l0_4.length c0_4, .int .i64 a0_5, .int .i64 a0_6, .string a0_7], .int .i64 a1] w fun e w' => e = .returned (.bool r) ∧ Below w.heap.size w w' := by
 have hu43 := Tryz.underlying43
 have HR0_1 := am_ hr0_1
 have HC0_1 := am_ hc0_1
 clear hr0_1 hc0_1
 have HR0_4 := am_ hr0_4
 have HC0_4 := am_ hc0_4
 clear hr0_4 hc0_4
 have HB := h0_ w
 have H : ((spec_l1In.f a1 0 20).bind fun t602 => (if t602 = true then (some (a1 != a0_0)) else (some false))) = some r := h
 clear h
 replace H := bi_ H; obtain ⟨t602, A3, H⟩ := H
 replace H := itb_ H; obtain ⟨rfl, H⟩ | ⟨rfl, H⟩ := H
 ·obtain rfl := Option.some.inj H
  go_enter Tryz.func76, Tryz.ntmps76
  go_wp2_with (first | ((with_reducible refine gd_ 2 ?_); refine bx_ 2 43 #[.int .i64 a0_0, .slice A0_1 l0_1.length c0_1, .int .i64 a0_2, .string a0_3, .slice A0_4 l0_4.length c0_4, .int .i64 a0_5, .int .i64 a0_6, .string a0_7] (hx_ HB ?_); clear HB; intro gb1 w5 BK1 GW1 HB; have GE1 := GW1) | ((with_reducible refine gq_ 72 6 ?_); refine gc_ 6 Tryz.func72 (spec_l1In.calls a1 0 20 true _ A3.out) ?_; rintro e w' ⟨rfl, ⟨nd, rfl⟩⟩; refine ⟨_, rfl, ?_⟩; have hcz6 := cz8_ BK1))
  go_ret
  exact ⟨e2_, bw_ HB⟩
 ·obtain rfl := Option.some.inj H
  go_enter Tryz.func76, Tryz.ntmps76
  go_wp2_with (first | ((with_reducible refine gd_ 2 ?_); refine bx_ 2 43 #[.int .i64 a0_0, .slice A0_1 l0_1.length c0_1, .int .i64 a0_2, .string a0_3, .slice A0_4 l0_4.length c0_4, .int .i64 a0_5, .int .i64 a0_6, .string a0_7] (hx_ HB ?_); clear HB; intro gb1 w7 BK1 GW1 HB; have GE1 := GW1) | ((with_reducible refine gq_ 72 6 ?_); refine gc_ 6 Tryz.func72 (spec_l1In.calls a1 0 20 false _ A3.out) ?_; rintro e w' ⟨rfl, ⟨nd, rfl⟩⟩; refine ⟨_, rfl, ?_⟩))
  go_ret
  exact ⟨e2_, bw_ HB⟩
def spec_l14Gossip.f (a0_0 : Int) (l0_1 : List ByteArray) (a0_2 : Int) (a0_3 : ByteArray) (l0_4 : List Int) (a0_5 : Int) (a0_6 : Int) (a0_7 : ByteArray) (a1 : Int) : Option ((List (S65))) := (spec_l14To.f a0_0 l0_1 a0_2 a0_3 l0_4 a0_5 a0_6 a0_7 a1).bind fun t602 => (if t602 = true then (some (([(⟨1, a0_0, a1, (⟨a0_6, a0_7⟩ : S37), 0, ([] : List ByteArray)⟩ : S65)] : List (S65)))) else (some (([] : List (S65)))))
theorem spec_l14Gossip.calls (a0_0 : Int) (A0_1 : Option Addr) (c0_1 : Nat) (l0_1 : List ByteArray) (a0_2 : Int) (a0_3 : ByteArray) (A0_4 : Option Addr) (c0_4 : Nat) (l0_4 : List Int) (a0_5 : Int) (a0_6 : Int) (a0_7 : ByteArray) (a1 : Int) (r : List (S65)) (w : World) (hr0_1 : Kd.C Kd.string w A0_1 l0_1.length l0_1) (hc0_1 : l0_1.length ≤ c0_1) (hr0_4 : Kd.C (Kd.int .u8) w A0_4 l0_4.length l0_4) (hc0_4 : l0_4.length ≤ c0_4) (h : spec_l14Gossip.f a0_0 l0_1 a0_2 a0_3 l0_4 a0_5 a0_6 a0_7 a1 = some r) :
  Calls Tryz.prog 69 #[.agg #[.int .i64 a0_0, .slice A0_1 l0_1.length c0_1, .int .i64 a0_2, .string a0_3, .slice A0_4 l0_4.length c0_4, .int .i64 a0_5, .int .i64 a0_6, .string a0_7], .int .i64 a1] w fun e w' => ∃ v0_ : Value, e = .returned (v0_) ∧ Kd.S k65 65 w' w.heap.size (fun _ => True) v0_ r ∧ Below w.heap.size w w' := by
 have hu43 := Tryz.underlying43
 have hu37 := Tryz.underlying37
 have hu65 := Tryz.underlying65
 have HR0_1 := am_ hr0_1
 have HC0_1 := am_ hc0_1
 clear hr0_1 hc0_1
 have HR0_4 := am_ hr0_4
 have HC0_4 := am_ hc0_4
 clear hr0_4 hc0_4
 have HB := h0_ w
 have H : ((spec_l14To.f a0_0 l0_1 a0_2 a0_3 l0_4 a0_5 a0_6 a0_7 a1).bind fun t602 => (if t602 = true then (some (([(⟨1, a0_0, a1, (⟨a0_6, a0_7⟩ : S37), 0, ([] : List ByteArray)⟩ : S65)] : List (S65)))) else (some (([] : List (S65)))))) = some r := h
 clear h
 replace H := bi_ H; obtain ⟨t602, A3, H⟩ := H
 replace H := itb_ H; obtain ⟨rfl, H⟩ | ⟨rfl, H⟩ := H
 ·obtain ⟨y603, hy3⟩ : ∃ y_ : List (S65), y_ = (([(⟨1, a0_0, a1, (⟨a0_6, a0_7⟩ : S37), 0, ([] : List ByteArray)⟩ : S65)] : List (S65))) := ⟨_, rfl⟩
  replace H : (some y603) = some r := yh_ hy3 H
  have Ny3 := am_ hy3
  clear hy3
  obtain rfl := Option.some.inj H
  go_enter Tryz.func69, Tryz.ntmps69
  go_wp2_with (first | ((with_reducible refine gd_ 2 ?_); refine bx_ 2 43 #[.int .i64 a0_0, .slice A0_1 l0_1.length c0_1, .int .i64 a0_2, .string a0_3, .slice A0_4 l0_4.length c0_4, .int .i64 a0_5, .int .i64 a0_6, .string a0_7] (hx_ HB ?_); clear HB; intro gb1 w5 BK1 GW1 HB; have GE1 := GW1; have hcz6 := cz8_ BK1) | ((with_reducible refine gq_ 76 7 ?_); refine gc_ 7 Tryz.func76 (spec_l14To.calls a0_0 _ _ l0_1 a0_2 a0_3 _ _ l0_4 a0_5 a0_6 a0_7 a1 true _ (cb_ HR0_1 HB) HC0_1.out (cb_ HR0_4 HB) HC0_4.out A3.out) ?_; rintro e w7 ⟨rfl, hb⟩; refine ⟨_, rfl, ?_⟩; replace BK1 := kl_ BK1 hb; replace HB := ss_ HB hb; clear hb; have hcz8 := cz8_ BK1) | ((with_reducible refine gd_ 16 ?_); refine Kd.S_lit k65 _ 65 ?hg (N := 16) ?hd (xs := ([(⟨1, a0_0, a1, (⟨a0_6, a0_7⟩ : S37), 0, ([] : List ByteArray)⟩ : S65)] : List (S65))) (inner := [.int .i64 1, .int .i64 a0_0, .int .i64 a1, .int .i64 a0_6, .string a0_7, .int .i64 0, .slice none 0 0]) (ok := fun _ => True) (okp := fun _ => True) ?hr ?hp (fun _ hk => hk) trivial (Below.refl _ _) (Nat.le_refl _) (by simp) ?_; (case hd => rfl); (case hg => rfl); (case hr => first | (go_simp; done) | (go_simp; rfl)); (case hp => exact (Reps.c7 (show Kd.M k65 _ _ _ (⟨1, a0_0, a1, (⟨a0_6, a0_7⟩ : S37), 0, ([] : List ByteArray)⟩ : S65) [.int .i64 1, .int .i64 a0_0, .int .i64 a1, .int .i64 a0_6, .string a0_7, .int .i64 0, .slice none 0 0] from (k65_mkM _ _ _ (⟨1, a0_0, a1, (⟨a0_6, a0_7⟩ : S37), 0, ([] : List ByteArray)⟩ : S65) (Kd.R_nil _ _ _ _ _))) (Reps.none _ _))); intro v4 w9 ho10 hb hg_ hnew_; clear hg_ hnew_; (first | rw [← Ny3.out] at ho10 | (simp only [Int.reduceToNat] at ho10; rw [← Ny3.out] at ho10)); have HO5 := am_ (Kd.S_lower ho10 (sz_ HB)); replace BK1 := kl_ BK1 hb; replace HB := ss_ HB hb; clear hb ho10))
  go_ret
  exact ⟨_, e2_, by (with_reducible repeat (first | apply Kd.S_alloc | apply Kd.S_drewN | apply Kd.S_drew)); exact HO5.out, bw_ HB⟩
 ·obtain ⟨y606, hy6⟩ : ∃ y_ : List (S65), y_ = (([] : List (S65))) := ⟨_, rfl⟩
  replace H : (some y606) = some r := yh_ hy6 H
  have Ny6 := am_ hy6
  clear hy6
  obtain rfl := Option.some.inj H
  go_enter Tryz.func69, Tryz.ntmps69
  go_wp2_with (first | ((with_reducible refine gd_ 2 ?_); refine bx_ 2 43 #[.int .i64 a0_0, .slice A0_1 l0_1.length c0_1, .int .i64 a0_2, .string a0_3, .slice A0_4 l0_4.length c0_4, .int .i64 a0_5, .int .i64 a0_6, .string a0_7] (hx_ HB ?_); clear HB; intro gb1 w11 BK1 GW1 HB; have GE1 := GW1; have hcz12 := cz8_ BK1) | ((with_reducible refine gq_ 76 7 ?_); refine gc_ 7 Tryz.func76 (spec_l14To.calls a0_0 _ _ l0_1 a0_2 a0_3 _ _ l0_4 a0_5 a0_6 a0_7 a1 false _ (cb_ HR0_1 HB) HC0_1.out (cb_ HR0_4 HB) HC0_4.out A3.out) ?_; rintro e w13 ⟨rfl, hb⟩; refine ⟨_, rfl, ?_⟩; replace BK1 := kl_ BK1 hb; replace HB := ss_ HB hb; clear hb) | ((with_reducible refine gd_ 9 ?_); refine Kd.S_lit k65 _ 65 ?hg (N := 9) ?hd (xs := ([] : List (S65))) (inner := []) (ok := fun _ => True) (okp := fun _ => True) ?hr ?hp (fun _ hk => hk) trivial (Below.refl _ _) (Nat.le_refl _) (by simp) ?_; (case hd => rfl); (case hg => rfl); (case hr => first | (go_simp; done) | (go_simp; rfl)); (case hp => exact (Reps.none _ _)); intro v7 w14 ho15 hb hg_ hnew_; clear hg_ hnew_; (first | rw [← Ny6.out] at ho15 | (simp only [Int.reduceToNat] at ho15; rw [← Ny6.out] at ho15)); have HO8 := am_ (Kd.S_lower ho15 (sz_ HB)); replace BK1 := kl_ BK1 hb; replace HB := ss_ HB hb; clear hb ho15))
  go_ret
  exact ⟨_, e2_, by (with_reducible repeat (first | apply Kd.S_alloc | apply Kd.S_drewN | apply Kd.S_drew)); exact HO8.out, bw_ HB⟩
def spec_Gossip.f (k : Nat) (a0_0 : Int) (l0_1 : List ByteArray) (a0_2 : Int) (a0_3 : ByteArray) (l0_4 : List Int) (a0_5 : Int) (a0_6 : Int) (a0_7 : ByteArray) (l1 : List (S37)) (a2 : Int) : Option ((List (S65))) := (spec_MirrorOk.f k a0_0 l0_1 a0_2 a0_3 l0_4 a0_5 a0_6 a0_7 l1).bind fun t602 => (if t602 = true then ((spec_l14Gossip.f a0_0 l0_1 a0_2 a0_3 l0_4 a0_5 a0_6 a0_7 a2).bind fun t3 => (some t3)) else (some (([] : List (S65)))))
theorem spec_Gossip.calls (k : Nat) (a0_0 : Int) (A0_1 : Option Addr) (c0_1 : Nat) (l0_1 : List ByteArray) (a0_2 : Int) (a0_3 : ByteArray) (A0_4 : Option Addr) (c0_4 : Nat) (l0_4 : List Int) (a0_5 : Int) (a0_6 : Int) (a0_7 : ByteArray) (A1 : Option Addr) (c1 : Nat) (l1 : List (S37)) (a2 : Int) (r : List (S65)) (w : World) (hr0_1 : Kd.C Kd.string w A0_1 l0_1.length l0_1) (hc0_1 : l0_1.length ≤ c0_1) (hr0_4 : Kd.C (Kd.int .u8) w A0_4 l0_4.length l0_4) (hc0_4 : l0_4.length ≤ c0_4) (hr1 : Kd.C k37 w A1 l1.length l1) (hc1 : l1.length ≤ c1) (h : spec_Gossip.f k a0_0 l0_1 a0_2 a0_3 l0_4 a0_5 a0_6 a0_7 l1 a2 = some r) :
  Calls Tryz.prog 34 #[.agg #[.int .i64 a0_0, .slice A0_1 l0_1.length c0_1, .int .i64 a0_2, .string a0_3, .slice A0_4 l0_4.length c0_4, .int .i64 a0_5, .int .i64 a0_6, .string a0_7], .slice A1 l1.length c1, .int .i64 a2] w fun e w' => ∃ v0_ : Value, e = .returned (v0_) ∧ Kd.S k65 65 w' w.heap.size (fun _ => True) v0_ r ∧ Below w.heap.size w w' := by
 have hu43 := Tryz.underlying43
 have HR0_1 := am_ hr0_1
 have HC0_1 := am_ hc0_1
 clear hr0_1 hc0_1
 have HR0_4 := am_ hr0_4
 have HC0_4 := am_ hc0_4
 clear hr0_4 hc0_4
 have HR1 := am_ hr1
 have HC1 := am_ hc1
 clear hr1 hc1
 have HB := h0_ w
 have H : ((spec_MirrorOk.f k a0_0 l0_1 a0_2 a0_3 l0_4 a0_5 a0_6 a0_7 l1).bind fun t602 => (if t602 = true then ((spec_l14Gossip.f a0_0 l0_1 a0_2 a0_3 l0_4 a0_5 a0_6 a0_7 a2).bind fun t3 => (some t3)) else (some (([] : List (S65)))))) = some r := h
 clear h
 replace H := bi_ H; obtain ⟨t602, A4, H⟩ := H
 replace H := itb_ H; obtain ⟨rfl, H⟩ | ⟨rfl, H⟩ := H
 ·replace H := bi_ H; obtain ⟨t3, A6, H⟩ := H
  obtain rfl := Option.some.inj H
  go_enter Tryz.func34, Tryz.ntmps34
  go_wp2_with (first | ((with_reducible refine gd_ 3 ?_); refine bx_ 3 43 #[.int .i64 a0_0, .slice A0_1 l0_1.length c0_1, .int .i64 a0_2, .string a0_3, .slice A0_4 l0_4.length c0_4, .int .i64 a0_5, .int .i64 a0_6, .string a0_7] (hx_ HB ?_); clear HB; intro gb1 w7 BK1 GW1 HB; have GE1 := GW1; have hcz8 := cz8_ BK1) | ((with_reducible refine gq_ 39 9 ?_); refine gc_ 9 Tryz.func39 (spec_MirrorOk.calls k a0_0 _ _ l0_1 a0_2 a0_3 _ _ l0_4 a0_5 a0_6 a0_7 _ _ l1 true _ (cb_ HR0_1 HB) HC0_1.out (cb_ HR0_4 HB) HC0_4.out (cb_ HR1 HB) HC1.out A4.out) ?_; rintro e w9 ⟨rfl, hb⟩; refine ⟨_, rfl, ?_⟩; replace BK1 := kl_ BK1 hb; replace HB := ss_ HB hb; clear hb; have hcz10 := cz8_ BK1) | ((with_reducible refine gq_ 69 14 ?_); refine gc_ 14 Tryz.func69 (spec_l14Gossip.calls a0_0 _ _ l0_1 a0_2 a0_3 _ _ l0_4 a0_5 a0_6 a0_7 a2 t3 _ (cb_ HR0_1 HB) HC0_1.out (cb_ HR0_4 HB) HC0_4.out A6.out) ?_; rintro e w11 ⟨v4, rfl, ho0, hb⟩; refine ⟨_, rfl, ?_⟩; have HO5 := am_ (Kd.S_lower ho0 (sz_ HB)); replace BK1 := kl_ BK1 hb; replace HB := ss_ HB hb; clear hb ho0))
  go_ret
  exact ⟨_, e2_, by (with_reducible repeat (first | apply Kd.S_alloc | apply Kd.S_drewN | apply Kd.S_drew)); exact HO5.out, bw_ HB⟩
 ·obtain ⟨y606, hy6⟩ : ∃ y_ : List (S65), y_ = (([] : List (S65))) := ⟨_, rfl⟩
  replace H : (some y606) = some r := yh_ hy6 H
  have Ny6 := am_ hy6
  clear hy6
  obtain rfl := Option.some.inj H
  go_enter Tryz.func34, Tryz.ntmps34
  go_wp2_with (first | ((with_reducible refine gd_ 3 ?_); refine bx_ 3 43 #[.int .i64 a0_0, .slice A0_1 l0_1.length c0_1, .int .i64 a0_2, .string a0_3, .slice A0_4 l0_4.length c0_4, .int .i64 a0_5, .int .i64 a0_6, .string a0_7] (hx_ HB ?_); clear HB; intro gb1 w12 BK1 GW1 HB; have GE1 := GW1; have hcz13 := cz8_ BK1) | ((with_reducible refine gq_ 39 9 ?_); refine gc_ 9 Tryz.func39 (spec_MirrorOk.calls k a0_0 _ _ l0_1 a0_2 a0_3 _ _ l0_4 a0_5 a0_6 a0_7 _ _ l1 false _ (cb_ HR0_1 HB) HC0_1.out (cb_ HR0_4 HB) HC0_4.out (cb_ HR1 HB) HC1.out A4.out) ?_; rintro e w14 ⟨rfl, hb⟩; refine ⟨_, rfl, ?_⟩; replace BK1 := kl_ BK1 hb; replace HB := ss_ HB hb; clear hb) | ((with_reducible refine gd_ 11 ?_); refine Kd.S_lit k65 _ 65 ?hg (N := 11) ?hd (xs := ([] : List (S65))) (inner := []) (ok := fun _ => True) (okp := fun _ => True) ?hr ?hp (fun _ hk => hk) trivial (Below.refl _ _) (Nat.le_refl _) (by simp) ?_; (case hd => rfl); (case hg => rfl); (case hr => first | (go_simp; done) | (go_simp; rfl)); (case hp => exact (Reps.none _ _)); intro v7 w15 ho16 hb hg_ hnew_; clear hg_ hnew_; (first | rw [← Ny6.out] at ho16 | (simp only [Int.reduceToNat] at ho16; rw [← Ny6.out] at ho16)); have HO8 := am_ (Kd.S_lower ho16 (sz_ HB)); replace BK1 := kl_ BK1 hb; replace HB := ss_ HB hb; clear hb ho16))
  go_ret
  exact ⟨_, e2_, by (with_reducible repeat (first | apply Kd.S_alloc | apply Kd.S_drewN | apply Kd.S_drew)); exact HO8.out, bw_ HB⟩
def spec_l14Ask.f (a0_0 : Int) (l0_1 : List ByteArray) (a0_2 : Int) (a0_3 : ByteArray) (l0_4 : List Int) (a0_5 : Int) (a0_6 : Int) (a0_7 : ByteArray) (a1 : Int) : Option ((List (S65))) := (spec_l14To.f a0_0 l0_1 a0_2 a0_3 l0_4 a0_5 a0_6 a0_7 a1).bind fun t602 => (if t602 = true then (if a0_6 ≤ (l0_1.length : Int) then (some (([] : List (S65)))) else (some (([(⟨2, a0_0, a1, (⟨a0_6, a0_7⟩ : S37), (l0_1.length : Int), ([] : List ByteArray)⟩ : S65)] : List (S65))))) else (some (([] : List (S65)))))
theorem spec_l14Ask.calls (a0_0 : Int) (A0_1 : Option Addr) (c0_1 : Nat) (l0_1 : List ByteArray) (a0_2 : Int) (a0_3 : ByteArray) (A0_4 : Option Addr) (c0_4 : Nat) (l0_4 : List Int) (a0_5 : Int) (a0_6 : Int) (a0_7 : ByteArray) (a1 : Int) (r : List (S65)) (w : World) (hr0_1 : Kd.C Kd.string w A0_1 l0_1.length l0_1) (hc0_1 : l0_1.length ≤ c0_1) (hr0_4 : Kd.C (Kd.int .u8) w A0_4 l0_4.length l0_4) (hc0_4 : l0_4.length ≤ c0_4) (h : spec_l14Ask.f a0_0 l0_1 a0_2 a0_3 l0_4 a0_5 a0_6 a0_7 a1 = some r) :
  Calls Tryz.prog 40 #[.agg #[.int .i64 a0_0, .slice A0_1 l0_1.length c0_1, .int .i64 a0_2, .string a0_3, .slice A0_4 l0_4.length c0_4, .int .i64 a0_5, .int .i64 a0_6, .string a0_7], .int .i64 a1] w fun e w' => ∃ v0_ : Value, e = .returned (v0_) ∧ Kd.S k65 65 w' w.heap.size (fun _ => True) v0_ r ∧ Below w.heap.size w w' := by
 have hu43 := Tryz.underlying43
 have hu37 := Tryz.underlying37
 have hu65 := Tryz.underlying65
 have HR0_1 := am_ hr0_1
 have HC0_1 := am_ hc0_1
 clear hr0_1 hc0_1
 have HR0_4 := am_ hr0_4
 have HC0_4 := am_ hc0_4
 clear hr0_4 hc0_4
 have HB := h0_ w
 have H : ((spec_l14To.f a0_0 l0_1 a0_2 a0_3 l0_4 a0_5 a0_6 a0_7 a1).bind fun t602 => (if t602 = true then (if a0_6 ≤ (l0_1.length : Int) then (some (([] : List (S65)))) else (some (([(⟨2, a0_0, a1, (⟨a0_6, a0_7⟩ : S37), (l0_1.length : Int), ([] : List ByteArray)⟩ : S65)] : List (S65))))) else (some (([] : List (S65)))))) = some r := h
 clear h
 replace H := bi_ H; obtain ⟨t602, A3, H⟩ := H
 replace H := itb_ H; obtain ⟨rfl, H⟩ | ⟨rfl, H⟩ := H
 ·replace H := itd_ H; obtain ⟨c5b0, H⟩ | ⟨c5b0, H⟩ := H
  ·obtain ⟨y603, hy3⟩ : ∃ y_ : List (S65), y_ = (([] : List (S65))) := ⟨_, rfl⟩
   replace H : (some y603) = some r := yh_ hy3 H
   have Ny3 := am_ hy3
   clear hy3
   obtain rfl := Option.some.inj H
   go_enter Tryz.func40, Tryz.ntmps40
   go_wp2_with (first | ((with_reducible refine gd_ 2 ?_); (try (refine gate_guard (by rfl) ?_; dsimp only)); refine bx_ 2 43 #[.int .i64 a0_0, .slice A0_1 l0_1.length c0_1, .int .i64 a0_2, .string a0_3, .slice A0_4 l0_4.length c0_4, .int .i64 a0_5, .int .i64 a0_6, .string a0_7] (hx_ HB ?_); clear HB; intro gb1 w6 BK1 GW1 HB; have GE1 := GW1; have hcz7 := cz8_ BK1) | ((with_reducible refine gq_ 76 7 ?_); refine gc_ 7 Tryz.func76 (spec_l14To.calls a0_0 _ _ l0_1 a0_2 a0_3 _ _ l0_4 a0_5 a0_6 a0_7 a1 true _ (cb_ HR0_1 HB) HC0_1.out (cb_ HR0_4 HB) HC0_4.out A3.out) ?_; rintro e w8 ⟨rfl, hb⟩; refine ⟨_, rfl, ?_⟩; replace BK1 := kl_ BK1 hb; replace HB := ss_ HB hb; clear hb; have hcz9 := cz8_ BK1) | ((with_reducible refine gd_ 20 ?_); (try (refine gate_guard (by rfl) ?_; dsimp only)); refine Kd.S_lit k65 _ 65 ?hg (N := 20) ?hd (xs := ([] : List (S65))) (inner := []) (ok := fun _ => True) (okp := fun _ => True) ?hr ?hp (fun _ hk => hk) trivial (Below.refl _ _) (Nat.le_refl _) (by simp) ?_; (case hd => rfl); (case hg => rfl); (case hr => first | (go_simp; done) | (go_simp; rfl)); (case hp => exact (Reps.none _ _)); intro v4 w10 ho11 hb hg_ hnew_; clear hg_ hnew_; (first | rw [← Ny3.out] at ho11 | (simp only [Int.reduceToNat] at ho11; rw [← Ny3.out] at ho11)); have HO5 := am_ (Kd.S_lower ho11 (sz_ HB)); replace BK1 := kl_ BK1 hb; replace HB := ss_ HB hb; clear hb ho11))
   go_ret
   exact ⟨_, e2_, by (with_reducible repeat (first | apply Kd.S_alloc | apply Kd.S_drewN | apply Kd.S_drew)); exact HO5.out, bw_ HB⟩
  ·obtain ⟨y606, hy6⟩ : ∃ y_ : List (S65), y_ = (([(⟨2, a0_0, a1, (⟨a0_6, a0_7⟩ : S37), (l0_1.length : Int), ([] : List ByteArray)⟩ : S65)] : List (S65))) := ⟨_, rfl⟩
   replace H : (some y606) = some r := yh_ hy6 H
   have Ny6 := am_ hy6
   clear hy6
   obtain rfl := Option.some.inj H
   go_enter Tryz.func40, Tryz.ntmps40
   go_wp2_with (first | ((with_reducible refine gd_ 2 ?_); (try (refine gate_guard (by rfl) ?_; dsimp only)); refine bx_ 2 43 #[.int .i64 a0_0, .slice A0_1 l0_1.length c0_1, .int .i64 a0_2, .string a0_3, .slice A0_4 l0_4.length c0_4, .int .i64 a0_5, .int .i64 a0_6, .string a0_7] (hx_ HB ?_); clear HB; intro gb1 w12 BK1 GW1 HB; have GE1 := GW1; have hcz13 := cz8_ BK1) | ((with_reducible refine gq_ 76 7 ?_); refine gc_ 7 Tryz.func76 (spec_l14To.calls a0_0 _ _ l0_1 a0_2 a0_3 _ _ l0_4 a0_5 a0_6 a0_7 a1 true _ (cb_ HR0_1 HB) HC0_1.out (cb_ HR0_4 HB) HC0_4.out A3.out) ?_; rintro e w14 ⟨rfl, hb⟩; refine ⟨_, rfl, ?_⟩; replace BK1 := kl_ BK1 hb; replace HB := ss_ HB hb; clear hb; have hcz15 := cz8_ BK1) | ((with_reducible refine gd_ 32 ?_); (try (refine gate_guard (by rfl) ?_; dsimp only)); refine Kd.S_lit k65 _ 65 ?hg (N := 32) ?hd (xs := ([(⟨2, a0_0, a1, (⟨a0_6, a0_7⟩ : S37), (l0_1.length : Int), ([] : List ByteArray)⟩ : S65)] : List (S65))) (inner := [.int .i64 2, .int .i64 a0_0, .int .i64 a1, .int .i64 a0_6, .string a0_7, .int .i64 (l0_1.length : Int), .slice none 0 0]) (ok := fun _ => True) (okp := fun _ => True) ?hr ?hp (fun _ hk => hk) trivial (Below.refl _ _) (Nat.le_refl _) (by simp) ?_; (case hd => rfl); (case hg => rfl); (case hr => first | (go_simp; done) | (go_simp; rfl)); (case hp => exact (Reps.c7 (show Kd.M k65 _ _ _ (⟨2, a0_0, a1, (⟨a0_6, a0_7⟩ : S37), (l0_1.length : Int), ([] : List ByteArray)⟩ : S65) [.int .i64 2, .int .i64 a0_0, .int .i64 a1, .int .i64 a0_6, .string a0_7, .int .i64 (l0_1.length : Int), .slice none 0 0] from (k65_mkM _ _ _ (⟨2, a0_0, a1, (⟨a0_6, a0_7⟩ : S37), (l0_1.length : Int), ([] : List ByteArray)⟩ : S65) (Kd.R_nil _ _ _ _ _))) (Reps.none _ _))); intro v7 w16 ho17 hb hg_ hnew_; clear hg_ hnew_; (first | rw [← Ny6.out] at ho17 | (simp only [Int.reduceToNat] at ho17; rw [← Ny6.out] at ho17)); have HO8 := am_ (Kd.S_lower ho17 (sz_ HB)); replace BK1 := kl_ BK1 hb; replace HB := ss_ HB hb; clear hb ho17))
   go_ret
   exact ⟨_, e2_, by (with_reducible repeat (first | apply Kd.S_alloc | apply Kd.S_drewN | apply Kd.S_drew)); exact HO8.out, bw_ HB⟩
 ·obtain ⟨y9, hy9⟩ : ∃ y_ : List (S65), y_ = (([] : List (S65))) := ⟨_, rfl⟩
  replace H : (some y9) = some r := yh_ hy9 H
  have Ny9 := am_ hy9
  clear hy9
  obtain rfl := Option.some.inj H
  go_enter Tryz.func40, Tryz.ntmps40
  go_wp2_with (first | ((with_reducible refine gd_ 2 ?_); (try (refine gate_guard (by rfl) ?_; dsimp only)); refine bx_ 2 43 #[.int .i64 a0_0, .slice A0_1 l0_1.length c0_1, .int .i64 a0_2, .string a0_3, .slice A0_4 l0_4.length c0_4, .int .i64 a0_5, .int .i64 a0_6, .string a0_7] (hx_ HB ?_); clear HB; intro gb1 w18 BK1 GW1 HB; have GE1 := GW1; have hcz19 := cz8_ BK1) | ((with_reducible refine gq_ 76 7 ?_); refine gc_ 7 Tryz.func76 (spec_l14To.calls a0_0 _ _ l0_1 a0_2 a0_3 _ _ l0_4 a0_5 a0_6 a0_7 a1 false _ (cb_ HR0_1 HB) HC0_1.out (cb_ HR0_4 HB) HC0_4.out A3.out) ?_; rintro e w20 ⟨rfl, hb⟩; refine ⟨_, rfl, ?_⟩; replace BK1 := kl_ BK1 hb; replace HB := ss_ HB hb; clear hb) | ((with_reducible refine gd_ 20 ?_); (try (refine gate_guard (by rfl) ?_; dsimp only)); refine Kd.S_lit k65 _ 65 ?hg (N := 20) ?hd (xs := ([] : List (S65))) (inner := []) (ok := fun _ => True) (okp := fun _ => True) ?hr ?hp (fun _ hk => hk) trivial (Below.refl _ _) (Nat.le_refl _) (by simp) ?_; (case hd => rfl); (case hg => rfl); (case hr => first | (go_simp; done) | (go_simp; rfl)); (case hp => exact (Reps.none _ _)); intro v10 w21 ho22 hb hg_ hnew_; clear hg_ hnew_; (first | rw [← Ny9.out] at ho22 | (simp only [Int.reduceToNat] at ho22; rw [← Ny9.out] at ho22)); have HO11 := am_ (Kd.S_lower ho22 (sz_ HB)); replace BK1 := kl_ BK1 hb; replace HB := ss_ HB hb; clear hb ho22))
  go_ret
  exact ⟨_, e2_, by (with_reducible repeat (first | apply Kd.S_alloc | apply Kd.S_drewN | apply Kd.S_drew)); exact HO11.out, bw_ HB⟩
def spec_AskFor.f (k : Nat) (a0_0 : Int) (l0_1 : List ByteArray) (a0_2 : Int) (a0_3 : ByteArray) (l0_4 : List Int) (a0_5 : Int) (a0_6 : Int) (a0_7 : ByteArray) (l1 : List (S37)) (a2 : Int) : Option ((List (S65))) := (spec_MirrorOk.f k a0_0 l0_1 a0_2 a0_3 l0_4 a0_5 a0_6 a0_7 l1).bind fun t602 => (if t602 = true then ((spec_l14Ask.f a0_0 l0_1 a0_2 a0_3 l0_4 a0_5 a0_6 a0_7 a2).bind fun t3 => (some t3)) else (some (([] : List (S65)))))
theorem spec_AskFor.calls (k : Nat) (a0_0 : Int) (A0_1 : Option Addr) (c0_1 : Nat) (l0_1 : List ByteArray) (a0_2 : Int) (a0_3 : ByteArray) (A0_4 : Option Addr) (c0_4 : Nat) (l0_4 : List Int) (a0_5 : Int) (a0_6 : Int) (a0_7 : ByteArray) (A1 : Option Addr) (c1 : Nat) (l1 : List (S37)) (a2 : Int) (r : List (S65)) (w : World) (hr0_1 : Kd.C Kd.string w A0_1 l0_1.length l0_1) (hc0_1 : l0_1.length ≤ c0_1) (hr0_4 : Kd.C (Kd.int .u8) w A0_4 l0_4.length l0_4) (hc0_4 : l0_4.length ≤ c0_4) (hr1 : Kd.C k37 w A1 l1.length l1) (hc1 : l1.length ≤ c1) (h : spec_AskFor.f k a0_0 l0_1 a0_2 a0_3 l0_4 a0_5 a0_6 a0_7 l1 a2 = some r) :
  Calls Tryz.prog 11 #[.agg #[.int .i64 a0_0, .slice A0_1 l0_1.length c0_1, .int .i64 a0_2, .string a0_3, .slice A0_4 l0_4.length c0_4, .int .i64 a0_5, .int .i64 a0_6, .string a0_7], .slice A1 l1.length c1, .int .i64 a2] w fun e w' => ∃ v0_ : Value, e = .returned (v0_) ∧ Kd.S k65 65 w' w.heap.size (fun _ => True) v0_ r ∧ Below w.heap.size w w' := by
 have hu43 := Tryz.underlying43
 have HR0_1 := am_ hr0_1
 have HC0_1 := am_ hc0_1
 clear hr0_1 hc0_1
 have HR0_4 := am_ hr0_4
 have HC0_4 := am_ hc0_4
 clear hr0_4 hc0_4
 have HR1 := am_ hr1
 have HC1 := am_ hc1
 clear hr1 hc1
 have HB := h0_ w
 have H : ((spec_MirrorOk.f k a0_0 l0_1 a0_2 a0_3 l0_4 a0_5 a0_6 a0_7 l1).bind fun t602 => (if t602 = true then ((spec_l14Ask.f a0_0 l0_1 a0_2 a0_3 l0_4 a0_5 a0_6 a0_7 a2).bind fun t3 => (some t3)) else (some (([] : List (S65)))))) = some r := h
 clear h
 replace H := bi_ H; obtain ⟨t602, A4, H⟩ := H
 replace H := itb_ H; obtain ⟨rfl, H⟩ | ⟨rfl, H⟩ := H
 ·replace H := bi_ H; obtain ⟨t3, A6, H⟩ := H
  obtain rfl := Option.some.inj H
  go_enter Tryz.func11, Tryz.ntmps11
  go_wp2_with (first | ((with_reducible refine gd_ 3 ?_); refine bx_ 3 43 #[.int .i64 a0_0, .slice A0_1 l0_1.length c0_1, .int .i64 a0_2, .string a0_3, .slice A0_4 l0_4.length c0_4, .int .i64 a0_5, .int .i64 a0_6, .string a0_7] (hx_ HB ?_); clear HB; intro gb1 w7 BK1 GW1 HB; have GE1 := GW1; have hcz8 := cz8_ BK1) | ((with_reducible refine gq_ 39 9 ?_); refine gc_ 9 Tryz.func39 (spec_MirrorOk.calls k a0_0 _ _ l0_1 a0_2 a0_3 _ _ l0_4 a0_5 a0_6 a0_7 _ _ l1 true _ (cb_ HR0_1 HB) HC0_1.out (cb_ HR0_4 HB) HC0_4.out (cb_ HR1 HB) HC1.out A4.out) ?_; rintro e w9 ⟨rfl, hb⟩; refine ⟨_, rfl, ?_⟩; replace BK1 := kl_ BK1 hb; replace HB := ss_ HB hb; clear hb; have hcz10 := cz8_ BK1) | ((with_reducible refine gq_ 40 14 ?_); refine gc_ 14 Tryz.func40 (spec_l14Ask.calls a0_0 _ _ l0_1 a0_2 a0_3 _ _ l0_4 a0_5 a0_6 a0_7 a2 t3 _ (cb_ HR0_1 HB) HC0_1.out (cb_ HR0_4 HB) HC0_4.out A6.out) ?_; rintro e w11 ⟨v4, rfl, ho0, hb⟩; refine ⟨_, rfl, ?_⟩; have HO5 := am_ (Kd.S_lower ho0 (sz_ HB)); replace BK1 := kl_ BK1 hb; replace HB := ss_ HB hb; clear hb ho0))
  go_ret
  exact ⟨_, e2_, by (with_reducible repeat (first | apply Kd.S_alloc | apply Kd.S_drewN | apply Kd.S_drew)); exact HO5.out, bw_ HB⟩
 ·obtain ⟨y606, hy6⟩ : ∃ y_ : List (S65), y_ = (([] : List (S65))) := ⟨_, rfl⟩
  replace H : (some y606) = some r := yh_ hy6 H
  have Ny6 := am_ hy6
  clear hy6
  obtain rfl := Option.some.inj H
  go_enter Tryz.func11, Tryz.ntmps11
  go_wp2_with (first | ((with_reducible refine gd_ 3 ?_); refine bx_ 3 43 #[.int .i64 a0_0, .slice A0_1 l0_1.length c0_1, .int .i64 a0_2, .string a0_3, .slice A0_4 l0_4.length c0_4, .int .i64 a0_5, .int .i64 a0_6, .string a0_7] (hx_ HB ?_); clear HB; intro gb1 w12 BK1 GW1 HB; have GE1 := GW1; have hcz13 := cz8_ BK1) | ((with_reducible refine gq_ 39 9 ?_); refine gc_ 9 Tryz.func39 (spec_MirrorOk.calls k a0_0 _ _ l0_1 a0_2 a0_3 _ _ l0_4 a0_5 a0_6 a0_7 _ _ l1 false _ (cb_ HR0_1 HB) HC0_1.out (cb_ HR0_4 HB) HC0_4.out (cb_ HR1 HB) HC1.out A4.out) ?_; rintro e w14 ⟨rfl, hb⟩; refine ⟨_, rfl, ?_⟩; replace BK1 := kl_ BK1 hb; replace HB := ss_ HB hb; clear hb) | ((with_reducible refine gd_ 11 ?_); refine Kd.S_lit k65 _ 65 ?hg (N := 11) ?hd (xs := ([] : List (S65))) (inner := []) (ok := fun _ => True) (okp := fun _ => True) ?hr ?hp (fun _ hk => hk) trivial (Below.refl _ _) (Nat.le_refl _) (by simp) ?_; (case hd => rfl); (case hg => rfl); (case hr => first | (go_simp; done) | (go_simp; rfl)); (case hp => exact (Reps.none _ _)); intro v7 w15 ho16 hb hg_ hnew_; clear hg_ hnew_; (first | rw [← Ny6.out] at ho16 | (simp only [Int.reduceToNat] at ho16; rw [← Ny6.out] at ho16)); have HO8 := am_ (Kd.S_lower ho16 (sz_ HB)); replace BK1 := kl_ BK1 hb; replace HB := ss_ HB hb; clear hb ho16))
  go_ret
  exact ⟨_, e2_, by (with_reducible repeat (first | apply Kd.S_alloc | apply Kd.S_drewN | apply Kd.S_drew)); exact HO8.out, bw_ HB⟩
def impl_MsgOk.j0 : Nat → Bool → Int → Int → Int → Int → ByteArray → Int → List ByteArray → Option (Bool)
 | 0, _, _, _, _, _, _, _, _ => none
 | k + 1, x31, x2000, x2001, x2002, x2003, x2004, x2005, x2006 => if x31 = true then (some false) else (if x2000 = 1 then (if x2005 = 0 then (some ((x2006.length : Int) == 0)) else (some false)) else (if x2000 = 2 then (if x2005 < x2003 then (some ((x2006.length : Int) == 0)) else (some false)) else (if x2000 = 3 then (if x2005 < x2003 then (some ((x2006.length : Int) == (wrap64 (x2003 - x2005)))) else (some false)) else (some false))))
def impl_MsgOk.f (k : Nat) (a0_0 : Int) (a0_1 : Int) (a0_2 : Int) (a0_3 : Int) (a0_4 : ByteArray) (a0_5 : Int) (l0_6 : List ByteArray) : Option (Bool) := (impl_isId.f a0_1).bind fun t602 => (if t602 = true then ((impl_isId.f a0_2).bind fun t3 => (if t3 = true then (if a0_1 = a0_2 then (impl_MsgOk.j0 k true a0_0 a0_1 a0_2 a0_3 a0_4 a0_5 l0_6) else ((impl_HeadOk.f a0_3 a0_4).bind fun t4 => (if t4 = true then ((impl_inRange.f a0_5 0 200).bind fun t5 => (impl_MsgOk.j0 k (!t5) a0_0 a0_1 a0_2 a0_3 a0_4 a0_5 l0_6)) else (impl_MsgOk.j0 k true a0_0 a0_1 a0_2 a0_3 a0_4 a0_5 l0_6)))) else (impl_MsgOk.j0 k true a0_0 a0_1 a0_2 a0_3 a0_4 a0_5 l0_6))) else (impl_MsgOk.j0 k true a0_0 a0_1 a0_2 a0_3 a0_4 a0_5 l0_6))
theorem impl_MsgOk.calls (k : Nat) (a0_0 : Int) (a0_1 : Int) (a0_2 : Int) (a0_3 : Int) (a0_4 : ByteArray) (a0_5 : Int) (A0_6 : Option Addr) (c0_6 : Nat) (l0_6 : List ByteArray) (r : Bool) (w : World) (hr0_6 : Kd.C Kd.string w A0_6 l0_6.length l0_6) (hc0_6 : l0_6.length ≤ c0_6) (h : impl_MsgOk.f k a0_0 a0_1 a0_2 a0_3 a0_4 a0_5 l0_6 = some r) :
  Calls Tryz.prog 35 #[.agg #[.int .i64 a0_0, .int .i64 a0_1, .int .i64 a0_2, .int .i64 a0_3, .string a0_4, .int .i64 a0_5, .slice A0_6 l0_6.length c0_6]] w fun e w' => e = .returned (.bool r) ∧ Below w.heap.size w w' := by
 have hu65 := Tryz.underlying65
 have hu37 := Tryz.underlying37
 have HR0_6 := am_ hr0_6
 have HC0_6 := am_ hc0_6
 clear hr0_6 hc0_6
 have HB := h0_ w
 have H : ((impl_isId.f a0_1).bind fun t602 => (if t602 = true then ((impl_isId.f a0_2).bind fun t3 => (if t3 = true then (if a0_1 = a0_2 then (impl_MsgOk.j0 k true a0_0 a0_1 a0_2 a0_3 a0_4 a0_5 l0_6) else ((impl_HeadOk.f a0_3 a0_4).bind fun t4 => (if t4 = true then ((impl_inRange.f a0_5 0 200).bind fun t5 => (impl_MsgOk.j0 k (!t5) a0_0 a0_1 a0_2 a0_3 a0_4 a0_5 l0_6)) else (impl_MsgOk.j0 k true a0_0 a0_1 a0_2 a0_3 a0_4 a0_5 l0_6)))) else (impl_MsgOk.j0 k true a0_0 a0_1 a0_2 a0_3 a0_4 a0_5 l0_6))) else (impl_MsgOk.j0 k true a0_0 a0_1 a0_2 a0_3 a0_4 a0_5 l0_6))) = some r := h
 clear h
 have HC2 := am_ H
 clear H
 go_enter Tryz.func35, Tryz.ntmps35
 go_upto_region 1 with (first | ((with_reducible refine gd_ 1 ?_); (try (refine gate_guard (by rfl) ?_; dsimp only)); refine bx_ 1 65 #[.int .i64 a0_0, .int .i64 a0_1, .int .i64 a0_2, .int .i64 a0_3, .string a0_4, .int .i64 a0_5, .slice A0_6 l0_6.length c0_6] (hx_ HB ?_); clear HB; intro gb1 w3 BK1 GW1 HB; have GE1 := GW1))
 (try simp only [Act.put, List.setIfInBounds_toArray, List.set_cons_zero, List.set_cons_succ])
 go_cut [31] (fun v31 wc => ∃ (kq : Nat) (x31_1 : Bool), v31 = .bool x31_1 ∧ Aside0 (impl_MsgOk.j0 kq x31_1 a0_0 a0_1 a0_2 a0_3 a0_4 a0_5 l0_6 = some r) ∧ Aside0 (kq ≤ k) ∧ Aside0 (wc.heap[gb1]? = some (.cells #[.int .i64 a0_0, .int .i64 a0_1, .int .i64 a0_2, .int .i64 a0_3, .string a0_4, .int .i64 a0_5, (.slice A0_6 l0_6.length c0_6)] 65 (0, 0))) ∧ Aside0 (Below w.heap.size w wc))
 case first =>
  have H := HC2.out
  clear HC2
  replace H := bi_ H; obtain ⟨t602, A4, H⟩ := H
  replace H := itb_ H; obtain ⟨rfl, H⟩ | ⟨rfl, H⟩ := H
  ·replace H := bi_ H; obtain ⟨t3, A6, H⟩ := H
   replace H := itb_ H; obtain ⟨rfl, H⟩ | ⟨rfl, H⟩ := H
   ·replace H := it_ H; obtain ⟨c8, H⟩ | ⟨c8, H⟩ := H
    ·have c8b0 : (a0_1 == a0_2) = true := beq_iff_eq.mpr c8
     have c8b1 : (a0_1 != a0_2) = false := bne_eq_false_iff_eq.mpr c8
     clear c8
     (first | rw [c8b0] | (simp only [i64_w, i32_w]; rw [c8b0]) | skip)
     have H' := am_ H
     clear H
     have hcz9 := cz7_ BK1
     go_wp2_with (first | ((with_reducible refine gq_ 59 5 ?_); refine gc_ 5 Tryz.func59 (impl_isId.calls a0_1 true _ A4.out) ?_; rintro e w' ⟨rfl, ⟨nd, rfl⟩⟩; refine ⟨_, rfl, ?_⟩) | (go_at_call 59; (with_reducible refine (impl_isId.calls a0_2 true _ A6.out).mono ?_); rintro e w' ⟨rfl, ⟨nd, rfl⟩⟩))
     go_meet
     case rel => exact ⟨_, (true), e1_, H', ⟨le_⟩, ⟨kb_ BK1.out⟩, ⟨bw_ HB⟩⟩
    ·have c8b0 : (a0_1 == a0_2) = false := beq_eq_false_iff_ne.mpr c8
     have c8b1 : (a0_1 != a0_2) = true := bne_iff_ne.mpr c8
     (first | rw [c8b0] | (simp only [i64_w, i32_w]; rw [c8b0]) | skip)
     replace H := bi_ H; obtain ⟨t4, A10, H⟩ := H
     replace H := itb_ H; obtain ⟨rfl, H⟩ | ⟨rfl, H⟩ := H
     ·replace H := bi_ H; obtain ⟨t5, A12, H⟩ := H
      have H' := am_ H
      clear H
      have hcz13 := cz7_ BK1
      go_wp2_with (first | ((with_reducible refine gq_ 59 5 ?_); refine gc_ 5 Tryz.func59 (impl_isId.calls a0_1 true _ A4.out) ?_; rintro e w' ⟨rfl, ⟨nd, rfl⟩⟩; refine ⟨_, rfl, ?_⟩) | (go_at_call 59; (with_reducible refine (impl_isId.calls a0_2 true _ A6.out).mono ?_); rintro e w' ⟨rfl, ⟨nd, rfl⟩⟩) | (go_at_call 60; (with_reducible refine (impl_HeadOk.calls a0_3 a0_4 true _ A10.out).mono ?_); rintro e w14 ⟨rfl, hb⟩; replace BK1 := kl_ BK1 hb; replace HB := ss_ HB hb; clear hb; have hcz15 := cz7_ BK1) | (go_at_call 63; (with_reducible refine (impl_inRange.calls a0_5 0 200 t5 _ A12.out).mono ?_); rintro e w' ⟨rfl, ⟨nd, rfl⟩⟩))
      go_meet
      case rel => exact ⟨_, (!t5), e1_, H', ⟨le_⟩, ⟨kb_ BK1.out⟩, ⟨bw_ HB⟩⟩
     ·have H' := am_ H
      clear H
      have hcz16 := cz7_ BK1
      go_wp2_with (first | ((with_reducible refine gq_ 59 5 ?_); refine gc_ 5 Tryz.func59 (impl_isId.calls a0_1 true _ A4.out) ?_; rintro e w' ⟨rfl, ⟨nd, rfl⟩⟩; refine ⟨_, rfl, ?_⟩) | (go_at_call 59; (with_reducible refine (impl_isId.calls a0_2 true _ A6.out).mono ?_); rintro e w' ⟨rfl, ⟨nd, rfl⟩⟩) | (go_at_call 60; (with_reducible refine (impl_HeadOk.calls a0_3 a0_4 false _ A10.out).mono ?_); rintro e w17 ⟨rfl, hb⟩; replace BK1 := kl_ BK1 hb; replace HB := ss_ HB hb; clear hb))
      go_meet
      case rel => exact ⟨_, (true), e1_, H', ⟨le_⟩, ⟨kb_ BK1.out⟩, ⟨bw_ HB⟩⟩
   ·have H' := am_ H
    clear H
    have hcz18 := cz7_ BK1
    go_wp2_with (first | ((with_reducible refine gq_ 59 5 ?_); refine gc_ 5 Tryz.func59 (impl_isId.calls a0_1 true _ A4.out) ?_; rintro e w' ⟨rfl, ⟨nd, rfl⟩⟩; refine ⟨_, rfl, ?_⟩) | (go_at_call 59; (with_reducible refine (impl_isId.calls a0_2 false _ A6.out).mono ?_); rintro e w' ⟨rfl, ⟨nd, rfl⟩⟩))
    go_meet
    case rel => exact ⟨_, (true), e1_, H', ⟨le_⟩, ⟨kb_ BK1.out⟩, ⟨bw_ HB⟩⟩
  ·have H' := am_ H
   clear H
   have hcz19 := cz7_ BK1
   go_wp2_with (first | ((with_reducible refine gq_ 59 5 ?_); refine gc_ 5 Tryz.func59 (impl_isId.calls a0_1 false _ A4.out) ?_; rintro e w' ⟨rfl, ⟨nd, rfl⟩⟩; refine ⟨_, rfl, ?_⟩))
   go_meet
   case rel => exact ⟨_, (true), e1_, H', ⟨le_⟩, ⟨kb_ BK1.out⟩, ⟨bw_ HB⟩⟩
 case rest =>
  clear HC2
  obtain ⟨kq, x31_1, rfl, HA, HJ1, BK1, HB⟩ := hcut
  cases kq with
  | zero => exact absurd HA.out (by simp [impl_MsgOk.j0])
  | succ kj1 =>
   have H := HA.out
   clear HA
   simp only [impl_MsgOk.j0] at H
   replace H := itb_ H; obtain ⟨rfl, H⟩ | ⟨rfl, H⟩ := H
   ·obtain rfl := Option.some.inj H
    go_wp2
    go_ret
    exact ⟨e2_, bw_ HB⟩
   ·replace H := it_ H; obtain ⟨c21, H⟩ | ⟨c21, H⟩ := H
    ·have c21b0 : (a0_0 == 1) = true := beq_iff_eq.mpr c21
     have c21b1 : (a0_0 != 1) = false := bne_eq_false_iff_eq.mpr c21
     clear c21
     replace H := it_ H; obtain ⟨c22, H⟩ | ⟨c22, H⟩ := H
     ·have c22b0 : (a0_5 == 0) = true := beq_iff_eq.mpr c22
      have c22b1 : (a0_5 != 0) = false := bne_eq_false_iff_eq.mpr c22
      clear c22
      obtain rfl := Option.some.inj H
      have hcz23 := cz7_ BK1
      go_wp2
      go_ret
      exact ⟨e2_, bw_ HB⟩
     ·have c22b0 : (a0_5 == 0) = false := beq_eq_false_iff_ne.mpr c22
      have c22b1 : (a0_5 != 0) = true := bne_iff_ne.mpr c22
      obtain rfl := Option.some.inj H
      have hcz24 := cz7_ BK1
      go_wp2
      go_ret
      exact ⟨e2_, bw_ HB⟩
    ·have c21b0 : (a0_0 == 1) = false := beq_eq_false_iff_ne.mpr c21
     have c21b1 : (a0_0 != 1) = true := bne_iff_ne.mpr c21
     replace H := it_ H; obtain ⟨c25, H⟩ | ⟨c25, H⟩ := H
     ·have c25b0 : (a0_0 == 2) = true := beq_iff_eq.mpr c25
      have c25b1 : (a0_0 != 2) = false := bne_eq_false_iff_eq.mpr c25
      clear c25
      replace H := itd_ H; obtain ⟨c26b0, H⟩ | ⟨c26b0, H⟩ := H
      ·obtain rfl := Option.some.inj H
       have hcz27 := cz7_ BK1
       go_wp2
       go_ret
       exact ⟨e2_, bw_ HB⟩
      ·obtain rfl := Option.some.inj H
       have hcz28 := cz7_ BK1
       go_wp2
       go_ret
       exact ⟨e2_, bw_ HB⟩
     ·have c25b0 : (a0_0 == 2) = false := beq_eq_false_iff_ne.mpr c25
      have c25b1 : (a0_0 != 2) = true := bne_iff_ne.mpr c25
      replace H := it_ H; obtain ⟨c29, H⟩ | ⟨c29, H⟩ := H
      ·have c29b0 : (a0_0 == 3) = true := beq_iff_eq.mpr c29
       have c29b1 : (a0_0 != 3) = false := bne_eq_false_iff_eq.mpr c29
       clear c29
       replace H := itd_ H; obtain ⟨c30b0, H⟩ | ⟨c30b0, H⟩ := H
       ·obtain rfl := Option.some.inj H
        have hcz31 := cz7_ BK1
        go_wp2
        go_ret
        exact ⟨e2_, bw_ HB⟩
       ·obtain rfl := Option.some.inj H
        have hcz32 := cz7_ BK1
        go_wp2
        go_ret
        exact ⟨e2_, bw_ HB⟩
      ·have c29b0 : (a0_0 == 3) = false := beq_eq_false_iff_ne.mpr c29
       have c29b1 : (a0_0 != 3) = true := bne_iff_ne.mpr c29
       obtain rfl := Option.some.inj H
       have hcz33 := cz7_ BK1
       go_wp2
       go_ret
       exact ⟨e2_, bw_ HB⟩
def spec_DrawGossip.f (k : Nat) (l0 : List Int) : Option (Int × List ByteArray × Int × ByteArray × List Int × Int × Int × ByteArray × (List (S37)) × Int) := (spec_l1New.f k l0).bind fun bt2 => ((spec_l14Any.f k bt2.1 bt2.2.1 bt2.2.2).bind fun bt6 => ((spec_l1Int.f bt2.1 bt6.2.2.2.2.2.2.2.2.2.2.1 bt6.2.2.2.2.2.2.2.2.2.2.2 (([bt6.1, 4, 5, 20, 21, (-1)] : List Int))).bind fun bt30 => (some (bt6.1, bt6.2.1, bt6.2.2.1, bt6.2.2.2.1, bt6.2.2.2.2.1, bt6.2.2.2.2.2.1, bt6.2.2.2.2.2.2.1, bt6.2.2.2.2.2.2.2.1, bt6.2.2.2.2.2.2.2.2.1, bt30.1))))
def spec_DrawGossip.T3 : Bool × List (List Nat × List Nat) := (true, [([], []), ([], []), ([], []), ([], []), ([3], [3]), ([4], [4]), ([2, 5], [2, 5]), ([0, 6, 0], [0]), ([1, 7, 0, 1, 7], [1]), ([6, 8, 0, 1, 2, 3, 4, 5, 6, 7, 8], [6])])
def spec_DrawGossip.B3 : List Nat := [0, 0, 0, 0, 8, 24, 60, 125, 255, 511]
theorem spec_DrawGossip.tab3 : rtab .any (opsOf Tryz.f32 3) = spec_DrawGossip.T3 := by kernel_rfl
theorem spec_DrawGossip.bits3 : waitsOk spec_DrawGossip.T3.2 spec_DrawGossip.B3 = true := by kernel_rfl
theorem spec_DrawGossip.calls (k : Nat) (A0 : Option Addr) (c0 : Nat) (l0 : List Int) (r1 : Int) (r2 : List ByteArray) (r3 : Int) (r4 : ByteArray) (r5 : List Int) (r6 : Int) (r7 : Int) (r8 : ByteArray) (r9 : List (S37)) (r10 : Int) (w : World) (hr0 : Kd.C (Kd.int .u8) w A0 l0.length l0) (hc0 : l0.length ≤ c0) (h : spec_DrawGossip.f k l0 = some (r1, r2, r3, r4, r5, r6, r7, r8, r9, r10)) :
  Calls Tryz.prog 32 #[.slice A0 l0.length c0] w fun e w' => ∃ v1_ v4_ v8_ : Value, e = .returned (.tuple #[.agg #[.int .i64 r1, v1_, .int .i64 r3, .string r4, v4_, .int .i64 r6, .int .i64 r7, .string r8], v8_, .int .i64 r10]) ∧ Kd.R Kd.string 9 w' w.heap.size (fun _ => True) v1_ r2 ∧ Kd.R (Kd.int .u8) 5 w' w.heap.size (fun _ => True) v4_ r5 ∧ Kd.R k37 37 w' w.heap.size (fun _ => True) v8_ r9 ∧ Below w.heap.size w w' := by
 have hu43 := Tryz.underlying43
 have HR0 := am_ hr0
 have HC0 := am_ hc0
 clear hr0 hc0
 have HB := h0_ w
 have H : ((spec_l1New.f k l0).bind fun bt2 => ((spec_l14Any.f k bt2.1 bt2.2.1 bt2.2.2).bind fun bt6 => ((spec_l1Int.f bt2.1 bt6.2.2.2.2.2.2.2.2.2.2.1 bt6.2.2.2.2.2.2.2.2.2.2.2 (([bt6.1, 4, 5, 20, 21, (-1)] : List Int))).bind fun bt30 => (some (bt6.1, bt6.2.1, bt6.2.2.1, bt6.2.2.2.1, bt6.2.2.2.2.1, bt6.2.2.2.2.2.1, bt6.2.2.2.2.2.2.1, bt6.2.2.2.2.2.2.2.1, bt6.2.2.2.2.2.2.2.2.1, bt30.1))))) = some (r1, r2, r3, r4, r5, r6, r7, r8, r9, r10) := h
 clear h
 replace H := bi_ H; obtain ⟨⟨t602, t3, t4⟩, A2, H⟩ := H
 dsimp only at H
 replace H := bi_ H; obtain ⟨⟨t6, t7, t10, t11, t12, t15, t16, t17, t18, t21, t24, t25⟩, A3, H⟩ := H
 dsimp only at H
 obtain ⟨y27, hy27⟩ : ∃ y_ : List Int, y_ = (([t6, 4, 5, 20, 21, (-1)] : List Int)) := ⟨_, rfl⟩
 replace H : ((spec_l1Int.f t602 t24 t25 y27).bind fun bt30 => (some (t6, t7, t10, t11, t12, t15, t16, t17, t18, bt30.1))) = some (r1, r2, r3, r4, r5, r6, r7, r8, r9, r10) := yh_ hy27 H
 have Ny27 := am_ hy27
 clear hy27
 replace H := bi_ H; obtain ⟨⟨t30, t31, t32⟩, A4, H⟩ := H
 dsimp only at H
 simp only [Option.some.injEq, Prod.mk.injEq] at H
 obtain ⟨rfl, rfl, rfl, rfl, rfl, rfl, rfl, rfl, rfl, rfl⟩ := H
 go_enter Tryz.func32, Tryz.ntmps32
 try go_wp2_with (first | ((with_reducible refine gd_ 2 ?_); refine x43_ 2 (hx_ HB ?_); clear HB; intro gb1 w5 BK1 GW1 HB; have GE1 := GW1) | ((with_reducible refine gq_ 51 10 ?_); refine gc_ 10 Tryz.func51 (spec_l1New.calls k _ _ l0 t602 t3 t4 w _ (bw_ HB) HR0.out HC0.out A2.out) ?_; rintro e w6 ⟨g5, rfl, hi, hb, hb2⟩; refine ⟨_, rfl, ?_⟩; replace HB := am_ hb; have HI5 := am_ hi; have NB5_1 := am_ (IsS105.ne_blk hi (blk_below (kb_ BK1.out) hb2) (by decide)); have NB1_5 := am_ (Ne.symm (IsS105.ne_blk hi (blk_below (kb_ BK1.out) hb2) (by decide))); replace BK1 := am_ (blk_below (kb_ BK1.out) hb2); clear hb hb2 hi) | ((with_reducible refine gq_ 52 13 ?_); refine gc_ 13 Tryz.func52 (spec_l14Any.calls k g5 t602 t3 t4 t6 t7 t10 t11 t12 t15 t16 t17 t18 t21 t24 t25 w _ (in105_ HI5) (bi105_ HB) A3.out) ?_; rintro e w7 ⟨v8, v13, v19, v22, rfl, ho0, ho1, ho2, ho3, hi, hb, hk⟩; refine ⟨_, rfl, ?_⟩; replace BK1 := kbk_ hk (kb_ BK1.out) NB1_5; have HO9 := am_ (Kd.R_lower ho0 (below_size (bs2_ HB (IsS105.ge HI5.out) GE1.out))); have HO14 := am_ (Kd.R_lower ho1 (below_size (bs2_ HB (IsS105.ge HI5.out) GE1.out))); have HO20 := am_ (Kd.R_lower ho2 (below_size (bs2_ HB (IsS105.ge HI5.out) GE1.out))); have HO23 := am_ (Kd.R_lower ho3 (below_size (bs2_ HB (IsS105.ge HI5.out) GE1.out))); replace HB := am_ hb; replace HI5 := am_ hi; clear hb hk hi ho0 ho1 ho2 ho3) | ((with_reducible refine gd_ 6 ?_); refine x43_ 6 ?_; intro gb26 hg w8 hbox hb; replace HO9 := rb_ HO9 hb; replace HO14 := rb_ HO14 hb; replace HO20 := rb_ HO20 hb; replace HO23 := rb_ HO23 hb; have BK26 := am_ hbox; have GW26 := am_ (gz_ hg (below_size (bs2_ HB (IsS105.ge HI5.out) GE1.out))); have GE26 := am_ (gz_ hg (below_size (bs2_ HB (IsS105.ge HI5.out) GE1.out))); replace HB := am_ (below_step (bs2_ HB (IsS105.ge HI5.out) GE1.out) hb); have NB1_26 := nla_ hg BK1; have NB26_1 := nga_ hg BK1; replace BK1 := kl_ BK1 hb; have NB5_26 := am_ ((by rw [hg]; exact Nat.ne_of_lt (IsS105.lt (show IsS105 w _ g5 t602 t24 t25 from in105_ HI5)) : g5 ≠ gb26)); have NB26_5 := am_ ((by rw [hg]; exact Nat.ne_of_gt (IsS105.lt (show IsS105 w _ g5 t602 t24 t25 from in105_ HI5)) : gb26 ≠ g5)); replace HI5 := am_ (IsS105.below (in105_ HI5) hb); clear hb hbox hg; have hnb9 := NB26_1.out; have hnc9 := NB1_26.out; have hnb10 := NB26_5.out; have hnc10 := NB5_26.out; have hcz11 := cz8_ BK26; obtain ⟨Ao12, co12, eo12⟩ := Kd.R_slice HO9.out; subst eo12; obtain ⟨Ao13, co13, eo13⟩ := Kd.R_slice HO14.out; subst eo13))
 obtain ⟨w14, hw_⟩ : ∃ w_ : World, w_ = ((((((((w8.setCell ⟨gb26, 0, none⟩ (.int .i64 t6)).setCell ⟨gb26, 1, none⟩ (.slice Ao12 t7.length co12)).setCell ⟨gb26, 2, none⟩ (.int .i64 t10)).setCell ⟨gb26, 3, none⟩ (.string t11)).setCell ⟨gb26, 4, none⟩ (.slice Ao13 t12.length co13)).setCell ⟨gb26, 5, none⟩ (.int .i64 t15)).setCell ⟨gb26, 6, none⟩ (.int .i64 t16)).setCell ⟨gb26, 7, none⟩ (.string t17)) := ⟨_, rfl⟩
 replace HO9 : Aside0 (Kd.R Kd.string 9 w14 w.heap.size (fun k_ => some k_ ≠ (v22 : Value).ownBlock) (.slice Ao12 t7.length co12) t7) := ⟨by rw [hw_]; exact kfm_ HO9 BK26⟩
 replace HO14 : Aside0 (Kd.R (Kd.int .u8) 5 w14 w.heap.size (fun _ => True) (.slice Ao13 t12.length co13) t12) := ⟨by rw [hw_]; exact kfm_ HO14 BK26⟩
 replace HO20 : Aside0 (Kd.R k37 37 w14 w.heap.size (fun _ => True) v19 t18) := ⟨by rw [hw_]; exact kfm_ HO20 BK26⟩
 replace HO23 : Aside0 (Kd.R Kd.string 9 w14 w.heap.size (fun k_ => some k_ ≠ (.slice Ao12 t7.length co12 : Value).ownBlock) v22 t21) := ⟨by rw [hw_]; exact kfm_ HO23 BK26⟩
 replace BK1 : Aside0 (w14.heap[gb1]? = some (.cells #[.int .i64 0, .slice none 0 0, .int .i64 0, .string (⟨#[]⟩ : ByteArray), .slice none 0 0, .int .i64 0, .int .i64 0, .string (⟨#[]⟩ : ByteArray)] 43 (0, 0))) := ⟨by rw [hw_]; exact kq_ BK1⟩
 replace BK26 : Aside0 (w14.heap[gb26]? = some (.cells #[.int .i64 t6, .slice Ao12 t7.length co12, .int .i64 t10, .string t11, .slice Ao13 t12.length co13, .int .i64 t15, .int .i64 t16, .string t17] 43 (0, 0))) := ⟨by rw [hw_]; exact kq_ BK26⟩
 replace HI5 : Aside0 (IsS105 w w14 g5 t602 t24 t25) := ⟨by rw [hw_]; exact in105_ HI5⟩
 replace HB : Aside0 (Below w.heap.size w w14) := ⟨by rw [hw_]; exact bi105_ HB⟩
 rw [← hw_]
 clear hw_
 replace HO9 := am_ (Kd.R_drew HO9.out)
 replace HO14 := am_ (Kd.R_drew HO14.out)
 replace HO20 := am_ (Kd.R_drew HO20.out)
 replace BK1 := bd_ BK1
 replace BK26 := bd_ BK26
 replace HI5 := am_ (IsS105.drew HI5.out)
 replace HB := hd_ HB
 refine sw_ 10 (fun w' => w'.cell? ⟨gb26, 0, none⟩ = some (.int .i64 t6) ∧ w'.cell? ⟨gb26, 1, none⟩ = some (.slice Ao12 t7.length co12) ∧ w'.cell? ⟨gb26, 2, none⟩ = some (.int .i64 t10) ∧ w'.cell? ⟨gb26, 3, none⟩ = some (.string t11) ∧ w'.cell? ⟨gb26, 4, none⟩ = some (.slice Ao13 t12.length co13) ∧ w'.cell? ⟨gb26, 5, none⟩ = some (.int .i64 t15) ∧ w'.cell? ⟨gb26, 6, none⟩ = some (.int .i64 t16) ∧ w'.cell? ⟨gb26, 7, none⟩ = some (.string t17)) [] spec_DrawGossip.tab3 spec_DrawGossip.bits3 ⟨bc0_ BK26.out, bc1_ BK26.out, bc2_ BK26.out, bc3_ BK26.out, bc4_ BK26.out, bc5_ BK26.out, bc6_ BK26.out, bc7_ BK26.out⟩ (fun hHeld HT_ HW_ => ?_)
 generalize w14.drew = w15 at HO9 HO14 HO20 HO23 BK1 BK26 HI5 HB hHeld ⊢
 refine pt_ 1 18 2 ?_
 refine pt_ 2 19 6 ?_
 refine pt_ 3 20 14 ?_
 refine tt_ 0 17 15 ?_
 refine tt_ 4 21 31 ?_
 refine oz_ 5 22 10 63 (fun K hK => ?_)
 refine Kd.R_lit_step (Kd.int .i64) _ 3 ?hg (N := 22) ?hd (xs := ([t6, 4, 5, 20, 21, (-1)] : List Int)) (inner := [.int .i64 t6, .int .i64 4, .int .i64 5, .int .i64 20, .int .i64 21, .int .i64 (-1)]) (ok := fun _ => True) (okp := fun _ => True) ?hr ?hp (fun _ hk => hk) trivial (Below.refl _ _) (Nat.le_refl _) (by simp) ?_; (case hd => rfl); (case hg => rfl); (case hr => first | (go_simp; done) | (go_simp; rfl)); (case hp => exact (Reps.one (show Kd.M (Kd.int .i64) _ _ _ t6 [.int .i64 t6] from rfl) (Reps.one (show Kd.M (Kd.int .i64) _ _ _ 4 [.int .i64 4] from rfl) (Reps.one (show Kd.M (Kd.int .i64) _ _ _ 5 [.int .i64 5] from rfl) (Reps.one (show Kd.M (Kd.int .i64) _ _ _ 20 [.int .i64 20] from rfl) (Reps.one (show Kd.M (Kd.int .i64) _ _ _ 21 [.int .i64 21] from rfl) (Reps.one (show Kd.M (Kd.int .i64) _ _ _ (-1) [.int .i64 (-1)] from rfl) (Reps.none _ _))))))))
 intro v28 w16 ho17 hb hg_ hnew_
 clear hg_ hnew_
 (first | rw [← Ny27.out] at ho17 | (simp only [Int.reduceToNat] at ho17; rw [← Ny27.out] at ho17))
 replace HO9 := rb_ HO9 hb
 replace HO14 := rb_ HO14 hb
 replace HO20 := rb_ HO20 hb
 have HO29 := am_ (Kd.R_lower ho17 (below_size (bs3_ HB (IsS105.ge HI5.out) GE1.out GE26.out)))
 replace BK1 := kl_ BK1 hb
 replace BK26 := kl_ BK26 hb
 replace HB := am_ (below_step (bs3_ HB (IsS105.ge HI5.out) GE1.out GE26.out) hb)
 replace HI5 := am_ (IsS105.below (in105_ HI5) hb)
 clear hb ho17
 obtain ⟨Ao18, co18, eo18⟩ := Kd.R_slice HO29.out
 (first | subst eo18 | (injection eo18 with f1_ f2_ f3_; have f4_ := f1_.symm; have f5_ := f3_.symm; clear f1_ f2_ f3_; subst f4_; subst f5_))
 refine hK.out _ _ ⟨bc0_ BK26.out, bc1_ BK26.out, bc2_ BK26.out, bc3_ BK26.out, bc4_ BK26.out, bc5_ BK26.out, bc6_ BK26.out, bc7_ BK26.out⟩ (fun hHeld => ?_)
 clear hK K
 refine no_ 22 ?_
 refine oz_ 6 23 10 127 (fun K hK => ?_)
 refine gf_ Tryz.func53 (spec_l1Int.calls g5 t602 t24 t25 _ _ y27 t30 t31 t32 w _ (in105_ HI5) (bi105_ HB) (ch_ HO29) (cl_ HO29) (far_slice (IsS105.own_ne HI5.out HO29.out (by decide))) A4.out) ?_
 rintro e w19 ⟨rfl, hi, hb, hk⟩
 refine ⟨_, rfl, ?_⟩
 replace BK1 := kbk_ hk (kb_ BK1.out) NB1_5
 have i_ := iw105_ hk (show IsS105 w _ g5 t602 t24 t25 from in105_ HI5)
 replace HO9 := rat105_ i_ (kr_ HO9.out) hk
 replace HO14 := rat105_ i_ (kr_ HO14.out) hk
 replace HO20 := rat105_ i_ (kr_ HO20.out) hk
 replace BK26 := kbk_ hk (kb_ BK26.out) NB26_5
 clear i_
 replace HB := am_ hb
 replace HI5 := am_ hi
 clear hb hk hi
 refine hK.out _ _ ⟨bc0_ BK26.out, bc1_ BK26.out, bc2_ BK26.out, bc3_ BK26.out, bc4_ BK26.out, bc5_ BK26.out, bc6_ BK26.out, bc7_ BK26.out⟩ (fun hHeld => ?_)
 clear hK K
 refine no_ 23 ?_
 refine one_ (i := 7) (N := none) (lz_ 10 255) rfl rfl (one_of HT_.out (by kernel_rfl)) (by decide) (fun K hK => ?_)
 have hs20 := bc0_ BK1.out
 have hfs20 := blk_frozen BK1.out 0
 have hns20_1 := NB26_1.out
 have hms20_1 := NB1_26.out
 have hs21 := bc1_ BK1.out
 have hfs21 := blk_frozen BK1.out 1
 have hns21_1 := NB26_1.out
 have hms21_1 := NB1_26.out
 have hs22 := bc2_ BK1.out
 have hfs22 := blk_frozen BK1.out 2
 have hns22_1 := NB26_1.out
 have hms22_1 := NB1_26.out
 have hs23 := bc3_ BK1.out
 have hfs23 := blk_frozen BK1.out 3
 have hns23_1 := NB26_1.out
 have hms23_1 := NB1_26.out
 have hs24 := bc4_ BK1.out
 have hfs24 := blk_frozen BK1.out 4
 have hns24_1 := NB26_1.out
 have hms24_1 := NB1_26.out
 have hs25 := bc5_ BK1.out
 have hfs25 := blk_frozen BK1.out 5
 have hns25_1 := NB26_1.out
 have hms25_1 := NB1_26.out
 have hs26 := bc6_ BK1.out
 have hfs26 := blk_frozen BK1.out 6
 have hns26_1 := NB26_1.out
 have hms26_1 := NB1_26.out
 have hs27 := bc7_ BK1.out
 have hfs27 := blk_frozen BK1.out 7
 have hns27_1 := NB26_1.out
 have hms27_1 := NB1_26.out
 refine skip_ (w1 := ?_) (by rfl) rfl ?_ ?_
 rotate_left
 ·go_simp
  rfl
 refine hK.out _ _ ⟨(cf_ NB26_1 hHeld.1), (cf_ NB26_1 hHeld.2.1), (cf_ NB26_1 hHeld.2.2.1), (cf_ NB26_1 hHeld.2.2.2.1), (cf_ NB26_1 hHeld.2.2.2.2.1), (cf_ NB26_1 hHeld.2.2.2.2.2.1), (cf_ NB26_1 hHeld.2.2.2.2.2.2.1), (cf_ NB26_1 hHeld.2.2.2.2.2.2.2)⟩ (fun hHeld => ?_)
 clear hK K
 refine pt_ 8 3 511 ?_
 refine pt_ 9 4 1023 ?_
 refine dn_ ?_
 try go_wp2
 refine bodyPost_ret (results_ctt rfl _ _ gb1 43 #[.int .i64 t6, .slice Ao12 t7.length co12, .int .i64 t10, .string t11, .slice Ao13 t12.length co13, .int .i64 t15, .int .i64 t16, .string t17] (0, 0) _ rfl (by exact kq_ BK1) Tryz.underlying43 rfl (by kernel_rfl)) rfl ?_
 exact ⟨_, _, _, e2_, kfm_ HO9 BK1, kfm_ HO14 BK1, kfm_ HO20 BK1, bi105_ HB⟩
def laws_big.f (l0 : List Int) : Option (Bool) := some (decide ((l0.length : Int) > 1048576))
theorem laws_big.calls (A0 : Option Addr) (c0 : Nat) (l0 : List Int) (r : Bool) (w : World) (hr0 : Kd.C (Kd.int .u8) w A0 l0.length l0) (hc0 : l0.length ≤ c0) (h : laws_big.f l0 = some r) :
  Calls Tryz.prog 22 #[.slice A0 l0.length c0] w fun e w' => e = .returned (.bool r) ∧ Drawn0 w w' := by
 have HR0 := am_ hr0
 have HC0 := am_ hc0
 clear hr0 hc0
 have H : (some (decide ((l0.length : Int) > 1048576))) = some r := h
 clear h
 obtain rfl := Option.some.inj H
 go_enter Tryz.func22, Tryz.ntmps22
 go_wp2
 go_ret
 exact ⟨e1_, dw_⟩
end Go.Proofs.YtnlndmoecljicaaGreat.Q
end
section
namespace Go.Proofs.YtnlndmoecljicaaGreat.Q
open Go.Proofs.YtnlndmoecljicaaGreatW.PrintLast Go.Proofs.YtnlndmoecljicaaGreatW.PrintMore Go.Proofs.YtnlndmoecljicaaGreatW.PrintWords Go.RowKit Go.Shelf
set_option maxHeartbeats 8000000
set_option maxRecDepth 100000
section
structure BelowBut (B g : Nat) (w w' : World) : Prop where
 os : w'.os = w.os
 tape : w'.tape = w.tape
 output : w'.output = w.output
 size : w.heap.size ≤ w'.heap.size
 block : ∀ k, k < B → k ≠ g → w'.heap[k]? = w.heap[k]?
theorem BelowBut.refl (B g : Nat) (w : World) : BelowBut B g w w := ⟨rfl, rfl, rfl, Nat.le_refl _, fun _ _ _ => rfl⟩
theorem BelowBut.trans {B g : Nat} {a b c : World} (h : BelowBut B g a b) (k : BelowBut B g b c) : BelowBut B g a c :=
 ⟨k.os.trans h.os, k.tape.trans h.tape, k.output.trans h.output, Nat.le_trans h.size k.size, fun i hi hn => (k.block i hi hn).trans (h.block i hi hn)⟩
theorem BelowBut.drew {B g : Nat} {a w : World} (h : BelowBut B g a w) : BelowBut B g a w.drew := ⟨h.os, h.tape, h.output, h.size, h.block⟩
theorem BelowBut.grown {B g : Nat} {w w' : World} (h : w.grownBy w' (some g)) (hB : B ≤ w.heap.size) : BelowBut B g w w' :=
 ⟨h.os, h.tape, h.output, h.size, fun k hk hn => h.block k (by omega) (fun e => hn (Option.some.inj e))⟩
theorem BelowBut.putObj {n₀ g : Nat} {w : World} (hn : n₀ ≤ w.heap.size) (W : World) (l : Nat) (o o' : Obj) (hl : w.heap.size ≤ l) (h : W.heap[l]? = some o) (_ : o.isCells = false) (_ : o.isWalk = false) : BelowBut n₀ g W (W.putObj l o') := by
 have hg := grownBy_putObj' W l o'
 exact ⟨hg.os, hg.tape, hg.output, hg.size, fun k hk _ => hg.block k (by have := (Array.getElem?_eq_some_iff.1 h).1; omega) (fun e => by cases e; omega)⟩
theorem BelowBut.cell {B g : Nat} {w w' : World} (h : BelowBut B g w w') {p : Addr} (hp : p.block < B) (hn : p.block ≠ g) : w'.cell? p = w.cell? p := World.cell?_of_block (w := w) (h.block p.block hp hn)
def starts (k : Nat) : List Nat := (List.range k).map (64 * ·)
theorem starts_succ (k : Nat) : starts (k + 1) = starts k ++ [64 * k] := by simp [starts, List.range_succ]
theorem starts_length (k : Nat) : (starts k).length = k := by simp [starts]
attribute [local go_sem] Oper.semAt_some
set_option maxHeartbeats 2000000 in
theorem chunk1_in (F : Fence) (n : Nat) (hF : F.fn 169) (hro : F.round = none) (hn : 1 ≤ n) (l Bs Bn n₀ gh b off cap m L : Nat) (hL : L = 64 * m) (hcap : L ≤ cap) (hreach : L ≤ 140737488355328)
  (hb : b < n₀) (hbs : Bs < n₀) (hbn : Bn < n₀) (hs1 : Bs ≠ gh) (hs2 : Bn ≠ gh) (J Jx : List Nat → World → Prop)
  (hY : ∀ pre x W, J pre W → pre.length < m → x + 64 ≤ L → YieldAt F (n - 1) Tryz.prog l #[.slice (some ⟨b, off + x, none⟩) 64 64] W fun e W' =>
   (e = .returned (.bool true) ∧ J (pre ++ [x]) W' ∧ BelowBut n₀ gh W W') ∨ (e = .returned (.bool false) ∧ Jx (pre ++ [x]) W'))
  (W : World) (hJ : AbidesFrom W.heap.size J) (hBs : W.cell? ⟨Bs, 0, none⟩ = some (.slice (some ⟨b, off, none⟩) L cap)) (hBn : W.cell? ⟨Bn, 0, none⟩ = some (.int .i64 64)) (h0 : J [] W) :
  CallsIn F n Tryz.prog 169 #[.func (.yield l) #[] #[], .pointer (some ⟨Bs, 0, none⟩), .pointer (some ⟨Bn, 0, none⟩)] W fun e W' => (∃ v, e = .returned v) ∧
   ((∃ ys, ys = starts m ∧ J ys W') ∨ (∃ pre, True ∧ Jx pre W')) := by
 refine callsIn_of_wp Tryz.func169 rfl hF ?_ hro
 have HL := am_ hL
 clear hL
 simp only [Tryz.ntmps169, List.size_toArray, List.length_cons, List.length_nil, Nat.reduceAdd, Nat.reduceSub, Array.replicate_succ, Array.replicate_zero, List.push_toArray, List.append_toArray, List.nil_append, List.cons_append]
 gi_wp2
 gi_loopw [4] (fun i wr => ∃ k i0 : Nat, k ≤ m ∧ Aside0 (i0 = 64 * k) ∧ i = .int .i64 i0 ∧ J (starts k) wr ∧ BelowBut n₀ gh W wr)
  (fun i _ => L - (intOf i).toNat)
 case atStart => exact ⟨0, 0, Nat.zero_le _, ⟨rfl⟩, rfl, h0, BelowBut.refl _ _ _⟩
 case round =>
  obtain ⟨k, i, hk, HI, rfl, hJs, hnx⟩ := hrel
  have c1 : wr.cell? ⟨Bs, 0, none⟩ = some (.slice (some ⟨b, off, none⟩) L cap) := (hnx.cell (p := ⟨Bs, 0, none⟩) hbs hs1).trans hBs
  have c2 : wr.cell? ⟨Bn, 0, none⟩ = some (.int .i64 64) := (hnx.cell (p := ⟨Bn, 0, none⟩) hbn hs2).trans hBn
  have hi := HI.out
  have hl := HL.out
  by_cases hlt : i < L
  ·have hdrew : J (starts k) wr.drew := hJ _ _ _ none hJs ⟨rfl, rfl, rfl, Nat.le_refl _, fun _ _ _ => rfl⟩ (fun r e => by cases e)
   obtain ⟨fn, tmps, assign, body, hy, hR⟩ := hY _ i wr.drew hdrew (by rw [starts_length]; omega) (by omega)
   have hle : i + 64 ≤ L := by omega
   clear hi hl
   have b1 : decide (i < L) = true := decide_eq_true hlt
   gi_wp2
   gi_region
   all_goals
    gi_wp2
    refine hR.mono ?_
    rintro e W3 (⟨rfl, hJ3, hk3⟩ | ⟨rfl, hJx3⟩)
    ·have c3 : W3.cell? ⟨Bn, 0, none⟩ = some (.int .i64 64) := (hk3.cell (p := ⟨Bn, 0, none⟩) hbn hs2).trans c2
     gi_wp2
     go_roundw
     case rel => exact ⟨k + 1, i + 64, by have h1 := HI.out; have h2 := HL.out; omega, ⟨by have h1 := HI.out; omega⟩, by go_num, by rw [starts_succ, ← HI.out]; exact hJ3, hnx.drew.trans hk3⟩
     case measure => simp [intOf]; omega
    ·gi_wp2
     refine bodyPost_ret (results_none rfl _ _ _) rfl ?_
     exact ⟨⟨_, rfl⟩, .inr ⟨_, trivial, hJx3⟩⟩
  ·have b1 : decide (i < L) = false := decide_eq_false hlt
   have hkm : k = m := by omega
   rw [hkm] at hJs
   clear hi hl hkm
   gi_wp2
   go_end0
   exact ⟨⟨_, rfl⟩, .inl ⟨_, rfl, hJs⟩⟩
theorem chunk_stops (F : Fence) (n : Nat) (hF : F.fn 169) (hro : F.round = none) (hn : 1 ≤ n) (Bs Bn n₀ gh b off cap m L : Nat) (hL : L = 64 * m) (hcap : L ≤ cap) (hreach : L ≤ 140737488355328)
  (hb : b < n₀) (hbs : Bs < n₀) (hbn : Bn < n₀) (hs1 : Bs ≠ gh) (hs2 : Bn ≠ gh) (w : World) (hn₀ : n₀ ≤ w.heap.size)
  (hBs : w.cell? ⟨Bs, 0, none⟩ = some (.slice (some ⟨b, off, none⟩) L cap)) (hBn : w.cell? ⟨Bn, 0, none⟩ = some (.int .i64 64)) :
  SeqStopsK F n Tryz.prog 169 #[.pointer (some ⟨Bs, 0, none⟩), .pointer (some ⟨Bn, 0, none⟩)] (fun x : { x : Nat // x + 64 ≤ L } => #[Value.slice (some ⟨b, off + x.1, none⟩) 64 64]) (BelowBut n₀ gh)
   (fun ys => ys.map (·.1) = starts m) (fun _ => True) m w := fun l J Jx W hW hJ _ hY h0 => by
 have hBs' := (hW.cell (p := ⟨Bs, 0, none⟩) (Nat.lt_of_lt_of_le hbs hn₀)).trans hBs
 have hBn' := (hW.cell (p := ⟨Bn, 0, none⟩) (Nat.lt_of_lt_of_le hbn hn₀)).trans hBn
 refine (chunk1_in F n hF hro hn l Bs Bn n₀ gh b off cap m L hL hcap hreach hb hbs hbn hs1 hs2 (fun pre W => ∃ q : List { x : Nat // x + 64 ≤ L }, q.map (·.1) = pre ∧ J q W) (fun pre W => ∃ q : List { x : Nat // x + 64 ≤ L }, q.map (·.1) = pre ∧ Jx q W) ?_ W ?_ hBs' hBn' ⟨[], rfl, h0⟩).mono ?_
 ·rintro pre x W1 ⟨q, rfl, hq⟩ hlen hx
  obtain ⟨fn, tmps, assign, body, hy, hR⟩ := hY q ⟨x, hx⟩ W1 hq (by simpa using hlen)
  refine ⟨fn, tmps, assign, body, hy, hR.mono ?_⟩
  rintro e W' (⟨rfl, hJ1, hk⟩ | ⟨rfl, hJx⟩)
  ·exact .inl ⟨rfl, ⟨_, by simp, hJ1⟩, hk⟩
  ·exact .inr ⟨rfl, _, by simp, hJx⟩
 ·rintro s A B row ⟨q, rfl, hq⟩ hg hr
  exact ⟨q, rfl, hJ q A B row hq hg hr⟩
 ·rintro e W' ⟨he, ⟨ys, rfl, q, hq, hj⟩ | ⟨pre, _, q, hq, hj⟩⟩
  ·exact ⟨he, .inl ⟨q, hq, hj⟩⟩
  ·exact ⟨he, .inr ⟨q, trivial, hj⟩⟩
set_option maxHeartbeats 1000000 in
theorem chunk_in (F : Fence) (n : Nat) (hF : F.fn 157) (hro : F.round = none) (a : Option Addr) (len cap : Nat) (w : World) :
  CallsIn F n Tryz.prog 157 #[.slice a len cap, .int .i64 64] w fun e w' => e = .returned (.func (.func 169) #[] #[.pointer (some ⟨w.heap.size, 0, none⟩), .pointer (some ⟨w.heap.size + 1, 0, none⟩)]) ∧ w' = (w.alloc (.cells #[.slice a len cap] 27)).alloc (.cells #[.int .i64 64] 3) := by
 refine callsIn_of_wp Tryz.func157 rfl hF ?_ hro
 simp only [Tryz.ntmps157, List.size_toArray, List.length_cons, List.length_nil, Nat.reduceAdd, Nat.reduceSub, Array.replicate_succ, Array.replicate_zero, List.push_toArray, List.append_toArray, List.nil_append, List.cons_append]
 gi_wp2
 go_ret
 exact ⟨rfl, rfl⟩
end
end Go.Proofs.YtnlndmoecljicaaGreat.Q
end
section
namespace Go.Proofs.YtnlndmoecljicaaGreat.Q
open Go.Proofs.YtnlndmoecljicaaGreat.B Go.Proofs.YtnlndmoecljicaaGreatW.PrintMore Go.Proofs.YtnlndmoecljicaaGreatW.PrintWords Go.RowKit
set_option maxHeartbeats 8000000
set_option maxRecDepth 100000
def zerosOf (n : Nat) : Nat := (119 - n % 64) % 64
def tailBytes (n : Int) : Nat → List Int
 | 0 => []
 | j + 1 => (shr .i64 n (8 * (j : Int))) % 256 :: tailBytes n j
def len8 (n : Int) : List Int := tailBytes n 8
theorem tailBytes_length (n : Int) (j : Nat) : (tailBytes n j).length = j := by
 induction j with
 | zero => rfl
 | succ j ih => simp [tailBytes, ih]
theorem tailBytes_bytes (n : Int) (j : Nat) : ∀ x ∈ tailBytes n j, 0 ≤ x ∧ x ≤ 255 := by
 induction j with
 | zero => simp [tailBytes]
 | succ j ih =>
  intro x hx
  rcases List.mem_cons.1 hx with rfl | hx
  ·omega
  ·exact ih x hx
def padL (l : List Int) : List Int := l ++ [128] ++ List.replicate (zerosOf l.length) 0 ++ len8 (8 * l.length)
theorem padL_length (l : List Int) : (padL l).length % 64 = 0 := by
 simp [padL, len8, tailBytes_length, zerosOf]
 omega
theorem padL_bytes (l : List Int) (h : ∀ x ∈ l, 0 ≤ x ∧ x ≤ 255) : ∀ x ∈ padL l, 0 ≤ x ∧ x ≤ 255 := by
 intro x hx
 simp only [padL, len8, List.mem_append, List.mem_replicate] at hx
 rcases hx with ((hx | hx) | hx) | hx
 ·exact h x hx
 ·simp at hx
  omega
 ·omega
 ·exact tailBytes_bytes _ _ x hx
theorem padL_size (l : List Int) : (padL l).length ≤ l.length + 72 := by
 simp [padL, len8, tailBytes_length, zerosOf]
 omega
theorem u64_eight (j : Nat) (hj : j ≤ 7) : IntKind.u64.wrap (wrap64 (8 * (j : Int))) = 8 * (j : Int) := by
 rw [w64 (by omega) (by omega), IntWalk.u64_in _ ⟨by omega, by omega⟩]
theorem padded_l1 (n : Int) : ∀ (j : Nat) (acc : List Int), j ≤ 8 → acc.length + j ≤ 140737488355320 → Ev (fun k => impl_Padded.l1 k acc n ((j : Int) - 1)) (acc ++ tailBytes n j) := by
 intro j
 induction j with
 | zero =>
  intro acc _ _
  refine Ev.step (f := fun _ => some acc) (fun k => ?_) (Ev.one (Ev.now _) (by simp [tailBytes]))
  simp only [impl_Padded.l1]
  rw [if_neg (by omega)]
 | succ j ih =>
  intro acc h1 h2
  refine Ev.step (fun k => ?_) (Ev.one (ih (acc ++ [(shr .i64 n (8 * (j : Int))) % 256]) (by omega) (by simp; omega)) (by simp [tailBytes]))
  simp only [impl_Padded.l1]
  have hj : (((j + 1 : Nat) : Int) - 1) = (j : Int) := by omega
  rw [hj, if_pos (by omega), u64_eight j (by omega), if_pos (by omega), if_pos (by omega), w64 (by omega) (by omega)]
theorem padded_l0 (l : List Int) (hl : l.length ≤ 1099511627776) : ∀ (d i : Nat) (acc : List Int), i + d = zerosOf l.length → acc = l ++ [128] ++ List.replicate i 0 → Ev (fun k => impl_Padded.l0 k l acc) (padL l) := by
 intro d
 induction d with
 | zero =>
  intro i acc hi ha
  have hlen : acc.length = l.length + 1 + i := by rw [ha]; simp; omega
  have hz : zerosOf l.length = (119 - l.length % 64) % 64 := rfl
  refine Ev.step (fun k => ?_) (Ev.one (padded_l1 (8 * (l.length : Int)) 8 acc (by omega) (by omega)) ?_)
  ·simp only [impl_Padded.l0]
   rw [w64 (by omega) (by omega), Int.tmod_eq_emod_of_nonneg (by omega), if_pos (by omega), w64 (by omega) (by omega)]
   rfl
  ·rw [ha, show i = zerosOf l.length from by omega]
   rfl
 | succ d ih =>
  intro i acc hi ha
  have hlen : acc.length = l.length + 1 + i := by rw [ha]; simp; omega
  have hz : zerosOf l.length = (119 - l.length % 64) % 64 := rfl
  refine Ev.step (fun k => ?_) (ih (i + 1) (acc ++ [0]) (by omega) (by rw [ha, List.append_assoc (l ++ [128])]; congr 1; rw [List.replicate_succ']))
  simp only [impl_Padded.l0]
  rw [w64 (by omega) (by omega), Int.tmod_eq_emod_of_nonneg (by omega), if_neg (by omega), if_pos (by omega)]
theorem impl_Padded_ev (l : List Int) (hl : l.length ≤ 1099511627776) : Ev (fun k => impl_Padded.f k l) (padL l) := by
 refine Ev.congr (fun k => ?_) (padded_l0 l hl (zerosOf l.length) 0 (l ++ [128]) (by omega) (by simp))
 unfold impl_Padded.f slices_Clone_byte_byte.f
 rw [if_pos (by omega)]
 simp only [Option.bind_some]
 rw [if_pos (by omega)]
theorem spec_in_eq (a b c : Int) : spec_l1In.f a b c = some (decide (b ≤ a ∧ a ≤ c)) := by
 unfold spec_l1In.f
 by_cases h : a ≥ b
 ·rw [if_pos h]
  by_cases h2 : a ≤ c
  ·rw [decide_eq_true h2, decide_eq_true ⟨h, h2⟩]
  ·rw [decide_eq_false h2, decide_eq_false (fun q => h2 q.2)]
 ·rw [if_neg h, decide_eq_false (fun q => h q.1)]
theorem impl_in_eq (a b c : Int) : impl_inRange.f a b c = some (decide (b ≤ a ∧ a ≤ c)) := spec_in_eq a b c
theorem nextC {i n : Nat} (h : i < n) (hn : n ≤ 9223372036854775807) : wrap64 ((i : Int) + 1) = ((i + 1 : Nat) : Int) := by
 rw [w64 (by omega) (by omega)]
 omega
theorem spec_same_ev (a b : List ByteArray) (ha : a.length ≤ 9223372036854775807) : Ev (fun k => spec_l8Same.f k a b) (decide (a = b)) := by
 unfold spec_l8Same.f
 by_cases hl : a.length = b.length
 ·have main : ∀ (d i : Nat), i + d = a.length → a.take i = b.take i → Ev (fun k => spec_l8Same.l0 k a b (i : Int)) (decide (a = b)) := by
   intro d
   induction d with
   | zero =>
    intro i hi ht
    rw [List.take_of_length_le (by omega), List.take_of_length_le (by omega)] at ht
    rw [decide_eq_true ht]
    refine Ev.step (fun k => by simp only [spec_l8Same.l0]; rfl) ?_
    exact Ev.neg (by omega) (Ev.now _)
   | succ d ih =>
    intro i hi ht
    obtain ⟨x, hx⟩ := get_some (l := a) (i := i) (by omega)
    obtain ⟨y, hy⟩ := get_some (l := b) (i := i) (by omega)
    refine Ev.step (fun k => by simp only [spec_l8Same.l0]; rfl) ?_
    rw [rdOf_at hx, rdOf_at hy, nextC (show i < a.length by omega) ha]
    by_cases h : x.toList = y.toList
    ·have e := bytes_ext h
     subst e
     exact Ev.pos (by omega) (Ev.pos (by omega) (Ev.pos (by omega) (Ev.pos rfl (ih (i + 1) (by omega) (by rw [take_one hx, take_one hy, ht])))))
    ·have hn : ¬ a = b := by
      intro e
      subst e
      rw [hx] at hy
      exact h (by rw [Option.some.inj hy])
     rw [decide_eq_false hn]
     exact Ev.pos (by omega) (Ev.pos (by omega) (Ev.pos (by omega) (Ev.neg h (Ev.now _))))
  exact Ev.pos (by omega) (main a.length 0 (by omega) (by simp))
 ·have hn : ¬ a = b := fun e => hl (by rw [e])
  rw [decide_eq_false hn]
  exact Ev.neg (by omega) (Ev.now _)
theorem impl_same_ev (a b : List ByteArray) (ha : a.length ≤ 9223372036854775807) : Ev (fun k => slices_Equal_string_string.f k a b) (decide (a = b)) := by
 unfold slices_Equal_string_string.f
 by_cases hl : a.length = b.length
 ·have main : ∀ (d i : Nat), i + d = a.length → a.take i = b.take i → Ev (fun k => slices_Equal_string_string.l0 k a b (a.length : Int) (i : Int)) (decide (a = b)) := by
   intro d
   induction d with
   | zero =>
    intro i hi ht
    rw [List.take_of_length_le (by omega), List.take_of_length_le (by omega)] at ht
    rw [decide_eq_true ht]
    refine Ev.step (fun k => by simp only [slices_Equal_string_string.l0]; rfl) ?_
    exact Ev.neg (by omega) (Ev.now _)
   | succ d ih =>
    intro i hi ht
    obtain ⟨x, hx⟩ := get_some (l := a) (i := i) (by omega)
    obtain ⟨y, hy⟩ := get_some (l := b) (i := i) (by omega)
    refine Ev.step (fun k => by simp only [slices_Equal_string_string.l0]; rfl) ?_
    rw [rdOf_at hx, rdOf_at hy, nextC (show i < a.length by omega) ha]
    by_cases h : x.toList = y.toList
    ·have e := bytes_ext h
     subst e
     exact Ev.pos (by omega) (Ev.pos (by omega) (Ev.pos (by omega) (Ev.pos (by omega) (Ev.pos rfl (ih (i + 1) (by omega) (by rw [take_one hx, take_one hy, ht]))))))
    ·have hn : ¬ a = b := by
      intro e
      subst e
      rw [hx] at hy
      exact h (by rw [Option.some.inj hy])
     rw [decide_eq_false hn]
     exact Ev.pos (by omega) (Ev.pos (by omega) (Ev.pos (by omega) (Ev.pos (by omega) (Ev.neg h (Ev.now _)))))
  exact Ev.pos (by omega) (main a.length 0 (by omega) (by simp))
 ·have hn : ¬ a = b := fun e => hl (by rw [e])
  rw [decide_eq_false hn]
  exact Ev.neg (by omega) (Ev.now _)
abbrev IHead := S37
def hasHead (l : List IHead) (a : Int) (b : ByteArray) : Bool := l.any fun x => x.f0 == a && (x.f1.toList == b.toList)
theorem rdI {l : List IHead} {i : Nat} {x : IHead} (h : l[i]? = some x) : rd_T37 l (i : Int) = x := by
 unfold rd_T37
 simp [List.getD_eq_getElem?_getD, h]
theorem next64 {i n : Nat} (h : i < n) (hn : n ≤ 9223372036854775807) : wrap64 ((i : Int) + 1) = ((i + 1 : Nat) : Int) := by
 rw [w64 (by omega) (by omega)]
 omega
theorem spec_IsSigned_ev (l : List IHead) (a : Int) (b : ByteArray) (hl : l.length ≤ 9223372036854775807) : Ev (fun k => spec_IsSigned.f k l a b) (hasHead l a b) := by
 have main : ∀ (d i : Nat), i + d = l.length → Ev (fun k => spec_IsSigned.l0 k l (i : Int) a b) (hasHead (l.drop i) a b) := by
  intro d
  induction d with
  | zero =>
   intro i hi
   refine Ev.step (f := fun _ => some false) (fun k => ?_) (Ev.one (Ev.now _) ?_)
   ·simp only [spec_IsSigned.l0]
    rw [if_neg (by omega)]
   ·rw [List.drop_of_length_le (by omega)]
    rfl
  | succ d ih =>
   intro i hi
   obtain ⟨x, hx⟩ := get_some (l := l) (i := i) (by omega)
   by_cases h : (x.f0 == a && (x.f1.toList == b.toList)) = true
   ·refine Ev.step (f := fun _ => some true) (fun k => ?_) (Ev.one (Ev.now _) ?_)
    ·simp only [spec_IsSigned.l0]
     rw [if_pos (by omega), if_pos (by omega), rdI hx, if_pos h]
    ·rw [drop_one hx]
     simp only [hasHead, List.any_cons, h, Bool.true_or]
   ·refine Ev.step (fun k => ?_) (Ev.one (ih (i + 1) (by omega)) ?_)
    ·simp only [spec_IsSigned.l0]
     rw [if_pos (by omega), if_pos (by omega), rdI hx, if_neg h, next64 (show i < l.length by omega) hl]
    ·rw [drop_one hx]
     simp only [hasHead, List.any_cons, Bool.eq_false_iff.mpr h, Bool.false_or]
 exact main l.length 0 (by omega)
theorem impl_Index_ev (l : List IHead) (a : Int) (b : ByteArray) (hl : l.length ≤ 9223372036854775807) : ∃ r, Ev (fun k => impl_Head_152.f k l a b) r ∧ decide (r ≥ 0) = hasHead l a b := by
 have main : ∀ (d i : Nat), i + d = l.length → ∃ r, Ev (fun k => impl_Head_152.l0 k l (l.length : Int) (i : Int) a b) r ∧ decide (r ≥ 0) = hasHead (l.drop i) a b := by
  intro d
  induction d with
  | zero =>
   intro i hi
   refine ⟨-1, Ev.step (f := fun _ => some (-1)) (fun k => ?_) (Ev.now _), ?_⟩
   ·simp only [impl_Head_152.l0]
    rw [if_neg (by omega)]
   ·rw [List.drop_of_length_le (by omega)]
    rfl
  | succ d ih =>
   intro i hi
   obtain ⟨x, hx⟩ := get_some (l := l) (i := i) (by omega)
   have hsym : (a == x.f0 && (b.toList == x.f1.toList)) = (x.f0 == a && (x.f1.toList == b.toList)) := by
    rw [Bool.beq_comm (a := a), Bool.beq_comm (a := b.toList)]
   by_cases h : (x.f0 == a && (x.f1.toList == b.toList)) = true
   ·refine ⟨(i : Int), Ev.step (f := fun _ => some (i : Int)) (fun k => ?_) (Ev.now _), ?_⟩
    ·simp only [impl_Head_152.l0]
     rw [if_pos (by omega), if_pos (by omega), if_pos (by omega), rdI hx, hsym, if_pos h]
    ·rw [drop_one hx]
     simp only [hasHead, List.any_cons, h, Bool.true_or]
     exact decide_eq_true (by omega)
   ·obtain ⟨r, h1, h2⟩ := ih (i + 1) (by omega)
    refine ⟨r, Ev.step (fun k => ?_) h1, ?_⟩
    ·simp only [impl_Head_152.l0]
     rw [if_pos (by omega), if_pos (by omega), if_pos (by omega), rdI hx, hsym, if_neg h, next64 (show i < l.length by omega) hl]
    ·rw [h2, drop_one hx]
     simp only [hasHead, List.any_cons, Bool.eq_false_iff.mpr h, Bool.false_or]
 obtain ⟨r, h1, h2⟩ := main l.length 0 (by omega)
 exact ⟨r, h1, h2⟩
theorem impl_IsSigned_ev (l : List IHead) (a : Int) (b : ByteArray) (hl : l.length ≤ 9223372036854775807) : Ev (fun k => impl_IsSigned.f k l a b) (hasHead l a b) := by
 obtain ⟨r, h1, h2⟩ := impl_Index_ev l a b hl
 refine Ev.congr (fun k => by unfold impl_IsSigned.f impl_Head_129.f; rfl) ?_
 refine Ev.bind (Ev.bind h1 (Ev.now _)) ?_
 rw [h2]
 exact Ev.now _
theorem spec_l11Copy_eq (l : List ByteArray) (n : Int) (s : ByteArray) (hl : l.length < 8796093022208) : spec_l11Copy.f l n s = some (l, n, s) := by
 unfold spec_l11Copy.f
 simp only [Option.bind_some, List.length_nil, List.nil_append]
 rw [if_pos (by omega)]
theorem spec_l12Copy_eq (l : List ByteArray) (n : Int) (s : ByteArray) (b : List Int) (u : Int) (hl : l.length < 8796093022208) (hb : b.length < 140737488355328) : spec_l12Copy.f l n s b u = some (l, n, s, b, u) := by
 unfold spec_l12Copy.f
 rw [spec_l11Copy_eq l n s hl]
 simp only [Option.bind_some, List.length_nil, List.nil_append]
 rw [if_pos (by omega)]
theorem exb {α β : Type} {f : Nat → Option α} {g : Nat → α → Option β} {a : α} {B : β → Prop} (h : Ev f a) (k : ∃ r, Ev (fun k => g k a) r ∧ B r) : ∃ r, Ev (fun k => (f k).bind (fun x => g k x)) r ∧ B r := by
 obtain ⟨r, e, b⟩ := k
 exact ⟨r, Ev.bind h e, b⟩
theorem exp_ {β : Type} {c : Prop} [Decidable c] {f g : Nat → Option β} {B : β → Prop} (h : c) (k : ∃ r, Ev f r ∧ B r) : ∃ r, Ev (fun k => if c then f k else g k) r ∧ B r := by
 obtain ⟨r, e, b⟩ := k
 exact ⟨r, Ev.pos h e, b⟩
theorem exn_ {β : Type} {c : Prop} [Decidable c] {f g : Nat → Option β} {B : β → Prop} (h : ¬ c) (k : ∃ r, Ev g r ∧ B r) : ∃ r, Ev (fun k => if c then f k else g k) r ∧ B r := by
 obtain ⟨r, e, b⟩ := k
 exact ⟨r, Ev.neg h e, b⟩
def bestStep (b h : IHead) : IHead := if h.f0 > b.f0 then h else b
def bestHead : List IHead → IHead
 | [] => ⟨0, ⟨#[]⟩⟩
 | h :: t => t.foldl bestStep h
theorem spec_BestHead_ev (l : List IHead) (hl : l.length ≤ 9223372036854775807) : Ev (fun k => spec_BestHead.f k l) ((bestHead l).f0, (bestHead l).f1) := by
 have main : ∀ (d i : Nat) (b : IHead), i + d = l.length → Ev (fun k => spec_BestHead.l0 k l (i : Int) b.f0 b.f1) (((l.drop i).foldl bestStep b).f0, ((l.drop i).foldl bestStep b).f1) := by
  intro d
  induction d with
  | zero =>
   intro i b hi
   refine Ev.step (f := fun _ => some (b.f0, b.f1)) (fun k => ?_) (Ev.one (Ev.now _) ?_)
   ·simp only [spec_BestHead.l0]
    rw [if_neg (by omega)]
   ·rw [List.drop_of_length_le (by omega)]
    rfl
  | succ d ih =>
   intro i b hi
   obtain ⟨x, hx⟩ := get_some (l := l) (i := i) (by omega)
   rw [drop_one hx, List.foldl_cons]
   by_cases h : x.f0 > b.f0
   ·have e : bestStep b x = x := if_pos h
    rw [e]
    refine Ev.step (fun k => ?_) (ih (i + 1) x (by omega))
    simp only [spec_BestHead.l0]
    rw [if_pos (by omega), if_pos (by omega), rdI hx, if_pos h, next64 (show i < l.length by omega) hl]
   ·have e : bestStep b x = b := if_neg h
    rw [e]
    refine Ev.step (fun k => ?_) (ih (i + 1) b (by omega))
    simp only [spec_BestHead.l0]
    rw [if_pos (by omega), if_pos (by omega), rdI hx, if_neg h, next64 (show i < l.length by omega) hl]
 cases l with
 | nil =>
  refine Ev.congr (fun k => ?_) (Ev.now _)
  unfold spec_BestHead.f
  rfl
 | cons h t =>
  refine Ev.congr (fun k => ?_) (main t.length 1 h (by simp; omega))
  unfold spec_BestHead.f
  rw [if_neg (by simp; omega), if_pos (by simp)]
  rfl
end Go.Proofs.YtnlndmoecljicaaGreat.Q
end
section
namespace Go.Proofs.YtnlndmoecljicaaGreat.Q
open Go.Proofs.YtnlndmoecljicaaGreatW.PrintLast Go.Proofs.YtnlndmoecljicaaGreatW.PrintMore Go.Proofs.YtnlndmoecljicaaGreatW.PrintWords Go.RowKit Go.Shelf
set_option maxHeartbeats 8000000
set_option maxRecDepth 100000
def shaK : List Int := [1116352408, 1899447441, 3049323471, 3921009573, 961987163, 1508970993, 2453635748, 2870763221, 3624381080, 310598401, 607225278, 1426881987, 1925078388, 2162078206, 2614888103, 3248222580, 3835390401, 4022224774, 264347078, 604807628, 770255983, 1249150122, 1555081692, 1996064986, 2554220882, 2821834349, 2952996808, 3210313671, 3336571891, 3584528711, 113926993, 338241895, 666307205, 773529912, 1294757372, 1396182291, 1695183700, 1986661051, 2177026350, 2456956037, 2730485921, 2820302411, 3259730800, 3345764771, 3516065817, 3600352804, 4094571909, 275423344, 430227734, 506948616, 659060556, 883997877, 958139571, 1322822218, 1537002063, 1747873779, 1955562222, 2024104815, 2227730452, 2361852424, 2428436474, 2756734187, 3204031479, 3329325298]
def shaH : List Int := [1779033703, 3144134277, 1013904242, 2773480762, 1359893119, 2600822924, 528734635, 1541459225]
def blockAt (p : List Int) (x : Nat) : List Int := (p.drop x).take 64
def foldAt (p : List Int) (xs : List Nat) : List Int := xs.foldl (fun h x => turned shaK (blockAt p x) h) shaH
theorem foldAt_snoc (p : List Int) (xs : List Nat) (x : Nat) : foldAt p (xs ++ [x]) = turned shaK (blockAt p x) (foldAt p xs) := by simp [foldAt]
theorem turned_length (ks bs hs : List Int) : (turned ks bs hs).length = hs.length := addAt_length _ _ _
theorem foldAt_length (p : List Int) (xs : List Nat) : (foldAt p xs).length = 8 := by
 have main : ∀ (xs : List Nat) (h : List Int), h.length = 8 → (xs.foldl (fun h x => turned shaK (blockAt p x) h) h).length = 8 := by
  intro xs
  induction xs with
  | nil => exact fun h hh => hh
  | cons x xs ih => exact fun h hh => ih _ (by rw [turned_length]; exact hh)
 exact main xs shaH rfl
def wordBytes (x : Int) : List Int := [x / 16777216 % 256, x / 65536 % 256, x / 256 % 256, x % 256]
def outBytes (hs : List Int) (k : Nat) : List Int := (hs.take k).flatMap wordBytes
def shaBytes (l : List Int) : List Int := outBytes (foldAt (padL l) (starts ((padL l).length / 64))) 8
def sha (l : List Int) : ByteArray := strOfNums (shaBytes l)
def impl_Digest.f (l : List Int) : Option (ByteArray) := if l.length ≤ 1099511627776 then some (sha l) else none
set_option maxHeartbeats 2000000 in
theorem rounds_calls (w : World) : Calls Tryz.prog 156 #[] w fun e w' => ∃ g, e = .returned (.pointer (some ⟨g, 0, none⟩)) ∧ w.heap.size ≤ g ∧ w'.heap[g]? = some (.cells (arrU shaK) 170 (0, 0)) ∧ Below w.heap.size w w' := by
 go_enter Tryz.func156, Tryz.ntmps156
 go_wp2
 go_ret
 exact ⟨_, rfl, Nat.le_refl _, blk_new w _, (Below.refl _ _).alloc (Nat.le_refl _) _⟩
theorem sub_reads {w : World} {b n : Nat} {xs : List Int} (h : Kd.C (Kd.int .u8) w (some ⟨b, 0, none⟩) n xs) (x : Nat) (hx : x + 64 ≤ n) : Kd.C (Kd.int .u8) w (some ⟨b, 0 + x, none⟩) (blockAt xs x).length (blockAt xs x) ∧ (blockAt xs x).length = 64 := by
 have hl := h.1
 have h64 : (blockAt xs x).length = 64 := by simp [blockAt]; omega
 obtain ⟨ad, he, hby⟩ := bytes_at h (by omega)
 obtain rfl := (Option.some.inj he).symm
 refine ⟨⟨rfl, by omega, fun _ => ⟨_, rfl, fun j p hj => ⟨[.int .u8 p], rfl, rfl, fun i u hu => ?_⟩⟩⟩, h64⟩
 have hj64 : j < 64 := by rw [← h64]; exact (List.getElem?_eq_some_iff.1 hj).1
 have hi0 : i = 0 := by
  rcases Nat.eq_zero_or_pos i with hz | hz
  ·exact hz
  ·rw [List.getElem?_eq_none (by simp; omega)] at hu
   cases hu
 subst hi0
 have hu2 : u = .int .u8 p := by simpa using hu.symm
 have hp : xs[x + j]? = some p := by
  rw [blockAt, List.getElem?_take, if_pos hj64, List.getElem?_drop] at hj
  exact hj
 have := hby.2 (x + j) (by omega)
 rw [hu2]
 have hrd : rd xs ((x + j : Nat) : Int) = p := by unfold rd; rw [Int.toNat_natCast]; simp [List.getD_eq_getElem?_getD, hp]
 rw [hrd] at this
 have haddr : (⟨b, 0 + x, none⟩ : Addr).add (j * (Kd.int .u8).sz + 0) = (⟨b, 0, none⟩ : Addr).add (x + j) := by
  rw [show (Kd.int .u8).sz = 1 from rfl, Nat.mul_one, Nat.add_zero]
  unfold Addr.add
  by_cases hj0 : j = 0
  ·by_cases hxx : x = 0
   ·simp [hj0, hxx]
   ·simp [hj0, hxx]
  ·simp [hj0]
 rw [haddr]
 exact this
theorem C_at {w W : World} {g n : Nat} {xs : List Int} (h : Kd.C (Kd.int .u8) w (some ⟨g, 0, none⟩) n xs) (hb : W.heap[g]? = w.heap[g]?) : Kd.C (Kd.int .u8) W (some ⟨g, 0, none⟩) n xs := by
 refine ⟨h.1, h.2.1, fun hp => ?_⟩
 obtain ⟨ad, he, f⟩ := h.2.2 hp
 obtain rfl := (Option.some.inj he).symm
 refine ⟨_, he, fun j p hj => ?_⟩
 obtain ⟨cs, h1, h2, h3⟩ := f j p hj
 refine ⟨cs, h1, h2, fun i u hu => ?_⟩
 have h4 := h3 i u hu
 have ha : ((⟨g, 0, none⟩ : Addr).add (j * (Kd.int .u8).sz + i)).block = g := by
  unfold Addr.add
  split <;> rfl
 rw [World.cell?_of_block (w := w) (w' := W) (by rw [ha]; exact hb)]
 exact h4
@[local go_sem] theorem run_index_h0 (v0 v1 v2 v3 v4 v5 v6 v7 : Int) (w : World) : (Instr.index 159 (.agg #[.int .u32 v0, .int .u32 v1, .int .u32 v2, .int .u32 v3, .int .u32 v4, .int .u32 v5, .int .u32 v6, .int .u32 v7]) (.int .i64 0)).run Tryz.prog w = .ok (.int .u32 v0) w := by
 simp [Instr.index, asIntOf, run_underlying Tryz.underlying159, go_sem]
@[local go_sem] theorem run_index_h1 (v0 v1 v2 v3 v4 v5 v6 v7 : Int) (w : World) : (Instr.index 159 (.agg #[.int .u32 v0, .int .u32 v1, .int .u32 v2, .int .u32 v3, .int .u32 v4, .int .u32 v5, .int .u32 v6, .int .u32 v7]) (.int .i64 1)).run Tryz.prog w = .ok (.int .u32 v1) w := by
 simp [Instr.index, asIntOf, run_underlying Tryz.underlying159, go_sem]
@[local go_sem] theorem run_index_h2 (v0 v1 v2 v3 v4 v5 v6 v7 : Int) (w : World) : (Instr.index 159 (.agg #[.int .u32 v0, .int .u32 v1, .int .u32 v2, .int .u32 v3, .int .u32 v4, .int .u32 v5, .int .u32 v6, .int .u32 v7]) (.int .i64 2)).run Tryz.prog w = .ok (.int .u32 v2) w := by
 simp [Instr.index, asIntOf, run_underlying Tryz.underlying159, go_sem]
@[local go_sem] theorem run_index_h3 (v0 v1 v2 v3 v4 v5 v6 v7 : Int) (w : World) : (Instr.index 159 (.agg #[.int .u32 v0, .int .u32 v1, .int .u32 v2, .int .u32 v3, .int .u32 v4, .int .u32 v5, .int .u32 v6, .int .u32 v7]) (.int .i64 3)).run Tryz.prog w = .ok (.int .u32 v3) w := by
 simp [Instr.index, asIntOf, run_underlying Tryz.underlying159, go_sem]
@[local go_sem] theorem run_index_h4 (v0 v1 v2 v3 v4 v5 v6 v7 : Int) (w : World) : (Instr.index 159 (.agg #[.int .u32 v0, .int .u32 v1, .int .u32 v2, .int .u32 v3, .int .u32 v4, .int .u32 v5, .int .u32 v6, .int .u32 v7]) (.int .i64 4)).run Tryz.prog w = .ok (.int .u32 v4) w := by
 simp [Instr.index, asIntOf, run_underlying Tryz.underlying159, go_sem]
@[local go_sem] theorem run_index_h5 (v0 v1 v2 v3 v4 v5 v6 v7 : Int) (w : World) : (Instr.index 159 (.agg #[.int .u32 v0, .int .u32 v1, .int .u32 v2, .int .u32 v3, .int .u32 v4, .int .u32 v5, .int .u32 v6, .int .u32 v7]) (.int .i64 5)).run Tryz.prog w = .ok (.int .u32 v5) w := by
 simp [Instr.index, asIntOf, run_underlying Tryz.underlying159, go_sem]
@[local go_sem] theorem run_index_h6 (v0 v1 v2 v3 v4 v5 v6 v7 : Int) (w : World) : (Instr.index 159 (.agg #[.int .u32 v0, .int .u32 v1, .int .u32 v2, .int .u32 v3, .int .u32 v4, .int .u32 v5, .int .u32 v6, .int .u32 v7]) (.int .i64 6)).run Tryz.prog w = .ok (.int .u32 v6) w := by
 simp [Instr.index, asIntOf, run_underlying Tryz.underlying159, go_sem]
@[local go_sem] theorem run_index_h7 (v0 v1 v2 v3 v4 v5 v6 v7 : Int) (w : World) : (Instr.index 159 (.agg #[.int .u32 v0, .int .u32 v1, .int .u32 v2, .int .u32 v3, .int .u32 v4, .int .u32 v5, .int .u32 v6, .int .u32 v7]) (.int .i64 7)).run Tryz.prog w = .ok (.int .u32 v7) w := by
 simp [Instr.index, asIntOf, run_underlying Tryz.underlying159, go_sem]
theorem xd_blk {A B : World} {row : Option Nat} {b n : Nat} {cs : Array Value} {T : TypeId} (h : A.heap[n]? = some (.cells cs T (0, 0))) (hg : A.grownBy B row) (hr : ∀ r, row = some r → b ≤ r ∧ ∃ o : Obj, A.heap[r]? = some o ∧ o.isCells = false) : B.heap[n]? = some (.cells cs T (0, 0)) := by
 rw [hg.block n (blk_lt h) (fun e => ?_)]
 ·exact h
 ·obtain ⟨_, o, ho, hc⟩ := hr n e.symm
  rw [h] at ho
  cases ho
  cases hc
theorem turn64 {g : Nat} (gh gk x : Nat) (p hs : List Int) (w : World) (hC : Kd.C (Kd.int .u8) w (some ⟨g, 0, none⟩) p.length p) (hx : x + 64 ≤ p.length) (hh : hs.length = 8)
  (hgh : w.heap[gh]? = some (.cells (arrU hs) 159 (0, 0))) (hgk : w.heap[gk]? = some (.cells (arrU shaK) 170 (0, 0))) :
  Calls Tryz.prog 159 #[.pointer (some ⟨gh, 0, none⟩), .slice (some ⟨g, x, none⟩) 64 64, .pointer (some ⟨gk, 0, none⟩)] w fun e w' => e = .returned (.tuple #[]) ∧ w.grownBy w' (some gh) ∧ w'.heap[gh]? = some (.cells (arrU (turned shaK (blockAt p x) hs)) 159 (0, 0)) := by
 obtain ⟨h1, h2⟩ := sub_reads hC x hx
 have := turnBlock_calls gh gk (some ⟨g, 0 + x, none⟩) 64 (blockAt p x) hs shaK w h1 h2 hh rfl hgh hgk
 rw [h2, Nat.zero_add] at this
 exact this
set_option maxHeartbeats 4000000 in
theorem impl_Digest.calls (A0 : Option Addr) (c0 : Nat) (l0 : List Int) (r : ByteArray) (w : World) (hr0 : Kd.C (Kd.int .u8) w A0 l0.length l0) (hc0 : l0.length ≤ c0) (h : impl_Digest.f l0 = some r) :
  Calls Tryz.prog 133 #[.slice A0 l0.length c0] w fun e w' => e = .returned (.string r) ∧ Below w.heap.size w w' := by
 unfold impl_Digest.f at h
 by_cases hl : l0.length ≤ 1099511627776
 ·rw [if_pos hl] at h
  obtain rfl := Option.some.inj h
  clear h
  obtain ⟨kp, hkp⟩ := Ev.rounds (impl_Padded_ev l0 hl)
  have HP := am_ hkp
  have HR := am_ hr0
  have HC := am_ hc0
  have HLL := am_ hl
  clear hkp hr0 hc0 hl
  refine (callsIn_wide (n := 3)).1 ?_
  refine callsIn_of_wp_marks Tryz.func133 rfl trivial ?_ rfl
  refine wpIn_wide.2 ?_
  simp only [Tryz.ntmps133, List.size_toArray, List.length_cons, List.length_nil, Nat.reduceAdd, Nat.reduceSub, Array.replicate_succ, Array.replicate_zero, List.push_toArray, List.append_toArray, List.nil_append, List.cons_append]
  go_wp2_with (go_at_call 156; (with_reducible refine (rounds_calls _).mono ?_); rintro e w1 ⟨gk, rfl, hk1, hk2, hb1⟩; have HK1 := am_ hk1; have HK2 := am_ hk2; have HB1 := am_ hb1; clear hk1 hk2 hb1)
  have HH1 := am_ (blk_below (blk_new w _) HB1.out)
  have HB2 := am_ (show Below w.heap.size w (w1.alloc (.cells #[.pointer (some ⟨gk, 0, none⟩)] 160)) from ((((Below.refl _ _).alloc (Nat.le_refl _) _).trans (HB1.out.mono (by simp))).alloc (by have := HB1.out.size; simp at this; omega) _))
  have HH2 := am_ (blk_alloc HH1.out (.cells #[.pointer (some ⟨gk, 0, none⟩)] 160))
  have HK3 := am_ (blk_alloc HK2.out (.cells #[.pointer (some ⟨gk, 0, none⟩)] 160))
  have HP2 := am_ (blk_new w1 (.cells #[.pointer (some ⟨gk, 0, none⟩)] 160))
  obtain ⟨gh, hgh⟩ : ∃ gh, w.heap.size = gh := ⟨_, rfl⟩
  obtain ⟨gb, hgb⟩ : ∃ gb, w1.heap.size = gb := ⟨_, rfl⟩
  have HGH := am_ hgh
  rw [hgh] at HH2
  rw [hgb] at HP2
  simp only [hgh, hgb]
  clear hgh hgb HH1 HK2 HK1
  generalize w1.alloc (.cells #[.pointer (some ⟨gk, 0, none⟩)] 160) = w2 at HB2 HH2 HK3 HP2 ⊢
  with_reducible refine (impl_Padded.calls kp _ _ l0 (padL l0) _ (Kd.C_below HR.out HB2.out) HC.out HP.out).mono ?_
  rintro e w3 ⟨vp, rfl, ho, hb3⟩
  have hplen := padL_length l0
  have hpsz := padL_size l0
  have hpp : 0 < (padL l0).length := by simp [padL]; omega
  obtain ⟨g, cap, rfl, hg1, hg2, cs0, hcs0⟩ := Kd.R_form ho hpp
  obtain ⟨_, hcap, hC⟩ := Kd.R_reads' ho
  have HO := am_ hC
  have HCS := am_ hcs0
  have HB3 := am_ (HB2.out.trans (hb3.mono HB2.out.size))
  have HH3 := am_ (blk_below HH2.out hb3)
  have HK4 := am_ (blk_below HK3.out hb3)
  have HP3 := am_ (blk_below HP2.out hb3)
  have HSZ := am_ hb3.size
  have HG := am_ (And.intro hg1 hg2)
  have HN := am_ (And.intro hplen (And.intro hpsz hcap))
  clear ho hb3 hg1 hg2 hcs0 hC hcap hplen hpsz hpp
  clear HB2 HH2 HK3 HP2
  go_wp2_with (go_at_call 157; (refine (callsIn_wide.1 (chunk_in Fence.wide 1 trivial rfl _ _ _ _)).mono ?_); rintro e w4 ⟨rfl, rfl⟩)
  rename_i hKz _
  have HKz := am_ hKz
  clear hKz
  obtain ⟨w4, hw4⟩ : ∃ w4, (w3.alloc (.cells #[.slice (some ⟨g, 0, none⟩) (padL l0).length cap] 27)).alloc (.cells #[.int .i64 64] 3) = w4 := ⟨_, rfl⟩
  have hb4 : Below w3.heap.size w3 w4 := by rw [← hw4]; exact ((Below.refl _ _).alloc (Nat.le_refl _) _).alloc (by simp) _
  have hsz4 : w4.heap.size = w3.heap.size + 2 := by rw [← hw4]; simp
  have HBs : w4.cell? ⟨w3.heap.size, 0, none⟩ = some (.slice (some ⟨g, 0, none⟩) (padL l0).length cap) := by
   rw [← hw4]
   simp
  have HBn : w4.cell? ⟨w3.heap.size + 1, 0, none⟩ = some (.int .i64 64) := by
   rw [← hw4]
   simp
  have hC4 := Kd.C_below HO.out hb4
  have hcs4 := blk_below HCS.out hb4
  have hgh4 := blk_below HH3.out hb4
  have hgk4 := blk_below HK4.out hb4
  have hgb4 := blk_below HP3.out hb4
  have hB4 : Below w.heap.size w w4 := HB3.out.trans (hb4.mono HB3.out.size)
  rw [hw4]
  clear hw4
  have hN := HN.out
  have hm : (padL l0).length = 64 * ((padL l0).length / 64) := by omega
  refine (wpIn_wide (n := 3)).1 ?_
  refine wpIn_rangeFunc_ownF rfl (by omega) (gf := 169) (lb := #[.pointer (some ⟨w3.heap.size, 0, none⟩), .pointer (some ⟨w3.heap.size + 1, 0, none⟩)]) rfl trivial (enters_of Tryz.func169 (by kernel_rfl) rfl)
   (chunk_stops Fence.wide _ trivial rfl (by omega) w3.heap.size (w3.heap.size + 1) w4.heap.size gh g 0 cap ((padL l0).length / 64) (padL l0).length hm hN.2.2 (by have := HLL.out; omega) (by have := blk_lt hcs4; omega) (by omega) (by omega) (by have := blk_lt HH3.out; omega) (by have := blk_lt HH3.out; omega) w4 (Nat.le_refl _) HBs HBn)
   BelowBut.trans (BelowBut.putObj (Nat.le_refl _)) (Below.refl _ _) (fun _ => rfl)
   (fun pre W => (Aside0 (W.heap[gh]? = some (.cells (arrU (foldAt (padL l0) (pre.map (·.1)))) 159 (0, 0))) ∧ Aside0 (W.heap[gk]? = some (.cells (arrU shaK) 170 (0, 0))) ∧ Aside0 (W.heap[gb]? = some (.cells #[.pointer (some ⟨gk, 0, none⟩)] 160 (0, 0))) ∧ Aside0 (W.heap[g]? = some (.cells cs0 5 (0, 0))) ∧ Aside0 (w4.heap.size ≤ W.heap.size)) ∧ Below w.heap.size w W)
   (fun _ _ _ => False)
   ?own (fun c => ?ownx) ?h0
   (fun x => { tmps := #[Value.slice A0 l0.length c0, undef, .string ⟨#[]⟩, .pointer (some ⟨gh, 0, none⟩), .pointer (some ⟨gb, 0, none⟩), Value.slice (some ⟨g, x.1, none⟩) 64 64, undef, undef, undef, .agg #[.int .u32 1779033703, .int .u32 3144134277, .int .u32 1013904242, .int .u32 2773480762, .int .u32 1359893119, .int .u32 2600822924, .int .u32 528734635, .int .u32 1541459225], .pointer (some ⟨gk, 0, none⟩), .slice A0 l0.length c0, .slice (some ⟨g, 0, none⟩) (padL l0).length cap, .func (.func 169) #[] #[.pointer (some ⟨w3.heap.size, 0, none⟩), .pointer (some ⟨w3.heap.size + 1, 0, none⟩)], Value.slice (some ⟨g, x.1, none⟩) 64 64, undef, undef, undef, undef, undef, undef, undef, undef, undef, undef, undef, undef, undef, undef, undef, undef, undef, undef, undef, undef, undef, undef, undef, undef], defers := [] }) ?assign ?body ?done ?stop
  case assign =>
   intro l x W K hK
   clear hm hN
   gi_wp2_with (rw [Oper.semAt_eq _ _ _ (fun c h => by cases h)]; go_simp; try go_bits)
   exact hK
  case body =>
   rintro l pre x W ⟨⟨hh, hk, hb, hc, hs⟩, hB⟩ _
   clear hm hN
   have cb : W.cell? ⟨gb, 0, none⟩ = some (.pointer (some ⟨gk, 0, none⟩)) := blk_cell hb.out 0
   have hcx : Kd.C (Kd.int .u8) W (some ⟨g, 0, none⟩) (padL l0).length (padL l0) := C_at hC4 (hc.out.trans hcs4.symm)
   have HCX := am_ hcx
   clear hcx hC4
   gi_wp2_with (rw [Oper.semAt_eq _ _ _ (fun c h => by cases h)]; go_simp; try go_bits)
   refine ⟨trivial, ?_⟩
   have HT := turn64 (g := g) gh gk x.1 (padL l0) (foldAt (padL l0) (pre.map (·.1))) W HCX.out x.2 (foldAt_length _ _) hh.out hk.out
   refine CallsIn.mono (CallsIn.inRound l (callsIn_wide.2 HT)) ?_
   rintro e W' ⟨rfl, hg', hn'⟩
   gi_wp2
   have hb0 : BelowBut w4.heap.size gh W W' := BelowBut.grown hg' hs.out
   have hsz := hs.out
   have hl1 := blk_lt hgk4
   have hl2 := blk_lt hgb4
   have hl3 := blk_lt hcs4
   have n1 : gk ≠ gh := blk_ne hk.out hh.out (by decide)
   have n2 : gb ≠ gh := blk_ne hb.out hh.out (by decide)
   have n3 : g ≠ gh := blk_ne hc.out hh.out (by decide)
   refine ⟨KeepsOthers.of_grownBy hg' (fun j o hj ho => by cases hj; rw [hh.out] at ho; cases ho; rfl), hb0, ⟨⟨?_⟩, ⟨?_⟩, ⟨?_⟩, ⟨?_⟩, ⟨?_⟩⟩, ?_⟩
   ·rw [List.map_append, List.map_cons, List.map_nil, foldAt_snoc]
    exact hn'
   ·exact (hb0.block gk hl1 n1).trans hk.out
   ·exact (hb0.block gb hl2 n2).trans hb.out
   ·exact (hb0.block g hl3 n3).trans hc.out
   ·exact Nat.le_trans hsz hb0.size
   ·exact hB.grown hg' (Nat.le_trans hB4.size hsz) (fun k e => by cases e; have := HGH.out; omega)
  case own =>
   refine OwnFrom.and (fun s A B row hs hg hr => ⟨⟨xd_blk hs.1.out hg hr⟩, ⟨xd_blk hs.2.1.out hg hr⟩, ⟨xd_blk hs.2.2.1.out hg hr⟩, ⟨xd_blk hs.2.2.2.1.out hg hr⟩, ⟨Nat.le_trans hs.2.2.2.2.out hg.size⟩⟩) (ownFrom_below (Nat.le_refl _) hB4.size)
  case ownx => exact fun s A B row hs hg hr => hs
  case h0 => exact ⟨⟨⟨hgh4⟩, ⟨hgk4⟩, ⟨hgb4⟩, ⟨hcs4⟩, ⟨Nat.le_refl _⟩⟩, hB4⟩
  case stop => exact fun D c pre W _ _ hx => hx.elim
  case done =>
   rintro D xs W hD hS ⟨⟨hh, _, _, _, hs⟩, hB⟩ hK
   clear hm hN hC4 hcs4 hgh4 hgk4 hgb4 hB4 HBs HBn
   refine HKz.out _ _ ?_
   clear HKz
   obtain ⟨v0, v1, v2, v3, v4, v5, v6, v7, hv⟩ := eight (foldAt_length (padL l0) (starts ((padL l0).length / 64)))
   rw [hS, hv] at hh
   have c0 : W.cell? ⟨gh, 0, none⟩ = some (.int .u32 v0) := blk_cell hh.out 0
   have c1 : W.cell? ⟨gh, 1, none⟩ = some (.int .u32 v1) := blk_cell hh.out 1
   have c2 : W.cell? ⟨gh, 2, none⟩ = some (.int .u32 v2) := blk_cell hh.out 2
   have c3 : W.cell? ⟨gh, 3, none⟩ = some (.int .u32 v3) := blk_cell hh.out 3
   have c4 : W.cell? ⟨gh, 4, none⟩ = some (.int .u32 v4) := blk_cell hh.out 4
   have c5 : W.cell? ⟨gh, 5, none⟩ = some (.int .u32 v5) := blk_cell hh.out 5
   have c6 : W.cell? ⟨gh, 6, none⟩ = some (.int .u32 v6) := blk_cell hh.out 6
   have c7 : W.cell? ⟨gh, 7, none⟩ = some (.int .u32 v7) := blk_cell hh.out 7
   have HV := am_ hv
   have HD := am_ hD
   have HKD := am_ hK
   have HBB := am_ hB
   have HS4 := am_ hsz4
   clear hv hD hK hB hS hsz4 hb4
   go_wp2
   have HL := am_ (And.intro hh.out hs.out)
   clear c0 c1 c2 c3 c4 c5 c6 c7 hh hs
   obtain ⟨W0, hW0⟩ : ∃ W0 : World, W = W0 := ⟨_, rfl⟩
   go_loopw [6, 19] (fun x6 x19 W' => ∃ k : Nat, k ≤ 8 ∧ x19 = .int .i64 k ∧ Aside0 (Kd.R (Kd.int .u8) 5 W' W.heap.size (fun _ => True) x6 (outBytes [v0, v1, v2, v3, v4, v5, v6, v7] k)) ∧ Aside0 (Below W.heap.size W W')) (fun _ x19 _ => 8 - (intOf x19).toNat)
   case atStart => exact ⟨0, by omega, rfl, ⟨Kd.R_nil _ _ _ _ _⟩, ⟨Below.refl _ _⟩⟩
   case round =>
    obtain ⟨k, hk, rfl, HR1, HB1⟩ := hrel
    by_cases hlt : k < 8
    ·have hk8 : k = 0 ∨ k = 1 ∨ k = 2 ∨ k = 3 ∨ k = 4 ∨ k = 5 ∨ k = 6 ∨ k = 7 := by omega
     clear hk hlt
     rcases hk8 with rfl | rfl | rfl | rfl | rfl | rfl | rfl | rfl
     ·go_wp2_with (first
       | ((with_reducible refine gate_dst (N := 34) rfl ?_); refine Kd.R_lit (Kd.int .u8) _ 5 ?hg (N := 34) ?hd (xs := wordBytes v0) (inner := [.int .u8 (v0 / 16777216 % 256), .int .u8 (v0 / 65536 % 256), .int .u8 (v0 / 256 % 256), .int .u8 (v0 % 256)]) (ok := fun _ => True) (okp := fun _ => True) ?hr ?hp (fun _ hk => hk) trivial (Below.refl _ _) (Nat.le_refl _) (by simp [wordBytes]) ?_; (case hd => rfl); (case hg => rfl); (case hr => first | (go_simp; done) | (go_simp; rfl)); (case hp => exact Reps.one (show Kd.M (Kd.int .u8) _ _ _ (v0 / 16777216 % 256) [.int .u8 (v0 / 16777216 % 256)] from rfl) (Reps.one (show Kd.M (Kd.int .u8) _ _ _ (v0 / 65536 % 256) [.int .u8 (v0 / 65536 % 256)] from rfl) (Reps.one (show Kd.M (Kd.int .u8) _ _ _ (v0 / 256 % 256) [.int .u8 (v0 / 256 % 256)] from rfl) (Reps.one (show Kd.M (Kd.int .u8) _ _ _ (v0 % 256) [.int .u8 (v0 % 256)] from rfl) (Reps.none _ _))))); intro vl wl ho hb hg_ hn_; clear hg_ hn_; have n0 := am_ (Kd.R_elder' HR1.out (Kd.R_base ho) hb); have n1 := am_ (Kd.R_lower (Kd.R_new' ho (Kd.R_lt HR1.out)) (below_size HB1.out)); have n2 := am_ (below_step HB1.out hb); clear HR1 HB1 ho hb; have HR1 := n0; have HO1 := n1; have HB1 := n2; clear n0 n1 n2; obtain ⟨Ao, co, eo⟩ := Kd.R_slice HO1.out; subst eo)
       | ((with_reducible refine gate_builtin (b := .append) (xs := #[.tmp 22, .tmp 34]) rfl ?_); at_builtin; refine Kd.R_append_rows (Kd.int .u8) (w0 := W) W.heap.size rfl (.tmp 22) (.tmp 34) 27 5 (.int .u8 0) 1 rfl Tryz.underlying27 info5 rfl (by decide) (by omega) u6 (outBytes [v0, v1, v2, v3, v4, v5, v6, v7] 0) (wordBytes v0) _ _ _ (fun k_ => some k_ ≠ (.slice Ao (wordBytes v0).length co : Value).ownBlock) (fun _ => False) rfl rfl (Kd.R_mono HR1.out (fun _ hk => hk.2)) (Kd.R_reads' HO1.out).2.2 (fun _ _ h => h) (fun _ h => h.elim) (fun k_ hk => Kd.fresh' (Kd.R_lt HO1.out) k_ hk) HB1.out (below_size HB1.out) (by simp [outBytes, wordBytes]) ?_; intro va wa ho hb hg_ hn_; clear hg_ hn_))
      go_roundw
      case rel => exact ⟨1, by omega, by go_num, ⟨Kd.R_mono ho (fun _ _ => trivial)⟩, ⟨hb⟩⟩
      case measure => simp [intOf]
     ·go_wp2_with (first
       | ((with_reducible refine gate_dst (N := 34) rfl ?_); refine Kd.R_lit (Kd.int .u8) _ 5 ?hg (N := 34) ?hd (xs := wordBytes v1) (inner := [.int .u8 (v1 / 16777216 % 256), .int .u8 (v1 / 65536 % 256), .int .u8 (v1 / 256 % 256), .int .u8 (v1 % 256)]) (ok := fun _ => True) (okp := fun _ => True) ?hr ?hp (fun _ hk => hk) trivial (Below.refl _ _) (Nat.le_refl _) (by simp [wordBytes]) ?_; (case hd => rfl); (case hg => rfl); (case hr => first | (go_simp; done) | (go_simp; rfl)); (case hp => exact Reps.one (show Kd.M (Kd.int .u8) _ _ _ (v1 / 16777216 % 256) [.int .u8 (v1 / 16777216 % 256)] from rfl) (Reps.one (show Kd.M (Kd.int .u8) _ _ _ (v1 / 65536 % 256) [.int .u8 (v1 / 65536 % 256)] from rfl) (Reps.one (show Kd.M (Kd.int .u8) _ _ _ (v1 / 256 % 256) [.int .u8 (v1 / 256 % 256)] from rfl) (Reps.one (show Kd.M (Kd.int .u8) _ _ _ (v1 % 256) [.int .u8 (v1 % 256)] from rfl) (Reps.none _ _))))); intro vl wl ho hb hg_ hn_; clear hg_ hn_; have n0 := am_ (Kd.R_elder' HR1.out (Kd.R_base ho) hb); have n1 := am_ (Kd.R_lower (Kd.R_new' ho (Kd.R_lt HR1.out)) (below_size HB1.out)); have n2 := am_ (below_step HB1.out hb); clear HR1 HB1 ho hb; have HR1 := n0; have HO1 := n1; have HB1 := n2; clear n0 n1 n2; obtain ⟨Ao, co, eo⟩ := Kd.R_slice HO1.out; subst eo)
       | ((with_reducible refine gate_builtin (b := .append) (xs := #[.tmp 22, .tmp 34]) rfl ?_); at_builtin; refine Kd.R_append_rows (Kd.int .u8) (w0 := W) W.heap.size rfl (.tmp 22) (.tmp 34) 27 5 (.int .u8 0) 1 rfl Tryz.underlying27 info5 rfl (by decide) (by omega) u6 (outBytes [v0, v1, v2, v3, v4, v5, v6, v7] 1) (wordBytes v1) _ _ _ (fun k_ => some k_ ≠ (.slice Ao (wordBytes v1).length co : Value).ownBlock) (fun _ => False) rfl rfl (Kd.R_mono HR1.out (fun _ hk => hk.2)) (Kd.R_reads' HO1.out).2.2 (fun _ _ h => h) (fun _ h => h.elim) (fun k_ hk => Kd.fresh' (Kd.R_lt HO1.out) k_ hk) HB1.out (below_size HB1.out) (by simp [outBytes, wordBytes]) ?_; intro va wa ho hb hg_ hn_; clear hg_ hn_))
      go_roundw
      case rel => exact ⟨2, by omega, by go_num, ⟨Kd.R_mono ho (fun _ _ => trivial)⟩, ⟨hb⟩⟩
      case measure => simp [intOf]
     ·go_wp2_with (first
       | ((with_reducible refine gate_dst (N := 34) rfl ?_); refine Kd.R_lit (Kd.int .u8) _ 5 ?hg (N := 34) ?hd (xs := wordBytes v2) (inner := [.int .u8 (v2 / 16777216 % 256), .int .u8 (v2 / 65536 % 256), .int .u8 (v2 / 256 % 256), .int .u8 (v2 % 256)]) (ok := fun _ => True) (okp := fun _ => True) ?hr ?hp (fun _ hk => hk) trivial (Below.refl _ _) (Nat.le_refl _) (by simp [wordBytes]) ?_; (case hd => rfl); (case hg => rfl); (case hr => first | (go_simp; done) | (go_simp; rfl)); (case hp => exact Reps.one (show Kd.M (Kd.int .u8) _ _ _ (v2 / 16777216 % 256) [.int .u8 (v2 / 16777216 % 256)] from rfl) (Reps.one (show Kd.M (Kd.int .u8) _ _ _ (v2 / 65536 % 256) [.int .u8 (v2 / 65536 % 256)] from rfl) (Reps.one (show Kd.M (Kd.int .u8) _ _ _ (v2 / 256 % 256) [.int .u8 (v2 / 256 % 256)] from rfl) (Reps.one (show Kd.M (Kd.int .u8) _ _ _ (v2 % 256) [.int .u8 (v2 % 256)] from rfl) (Reps.none _ _))))); intro vl wl ho hb hg_ hn_; clear hg_ hn_; have n0 := am_ (Kd.R_elder' HR1.out (Kd.R_base ho) hb); have n1 := am_ (Kd.R_lower (Kd.R_new' ho (Kd.R_lt HR1.out)) (below_size HB1.out)); have n2 := am_ (below_step HB1.out hb); clear HR1 HB1 ho hb; have HR1 := n0; have HO1 := n1; have HB1 := n2; clear n0 n1 n2; obtain ⟨Ao, co, eo⟩ := Kd.R_slice HO1.out; subst eo)
       | ((with_reducible refine gate_builtin (b := .append) (xs := #[.tmp 22, .tmp 34]) rfl ?_); at_builtin; refine Kd.R_append_rows (Kd.int .u8) (w0 := W) W.heap.size rfl (.tmp 22) (.tmp 34) 27 5 (.int .u8 0) 1 rfl Tryz.underlying27 info5 rfl (by decide) (by omega) u6 (outBytes [v0, v1, v2, v3, v4, v5, v6, v7] 2) (wordBytes v2) _ _ _ (fun k_ => some k_ ≠ (.slice Ao (wordBytes v2).length co : Value).ownBlock) (fun _ => False) rfl rfl (Kd.R_mono HR1.out (fun _ hk => hk.2)) (Kd.R_reads' HO1.out).2.2 (fun _ _ h => h) (fun _ h => h.elim) (fun k_ hk => Kd.fresh' (Kd.R_lt HO1.out) k_ hk) HB1.out (below_size HB1.out) (by simp [outBytes, wordBytes]) ?_; intro va wa ho hb hg_ hn_; clear hg_ hn_))
      go_roundw
      case rel => exact ⟨3, by omega, by go_num, ⟨Kd.R_mono ho (fun _ _ => trivial)⟩, ⟨hb⟩⟩
      case measure => simp [intOf]
     ·go_wp2_with (first
       | ((with_reducible refine gate_dst (N := 34) rfl ?_); refine Kd.R_lit (Kd.int .u8) _ 5 ?hg (N := 34) ?hd (xs := wordBytes v3) (inner := [.int .u8 (v3 / 16777216 % 256), .int .u8 (v3 / 65536 % 256), .int .u8 (v3 / 256 % 256), .int .u8 (v3 % 256)]) (ok := fun _ => True) (okp := fun _ => True) ?hr ?hp (fun _ hk => hk) trivial (Below.refl _ _) (Nat.le_refl _) (by simp [wordBytes]) ?_; (case hd => rfl); (case hg => rfl); (case hr => first | (go_simp; done) | (go_simp; rfl)); (case hp => exact Reps.one (show Kd.M (Kd.int .u8) _ _ _ (v3 / 16777216 % 256) [.int .u8 (v3 / 16777216 % 256)] from rfl) (Reps.one (show Kd.M (Kd.int .u8) _ _ _ (v3 / 65536 % 256) [.int .u8 (v3 / 65536 % 256)] from rfl) (Reps.one (show Kd.M (Kd.int .u8) _ _ _ (v3 / 256 % 256) [.int .u8 (v3 / 256 % 256)] from rfl) (Reps.one (show Kd.M (Kd.int .u8) _ _ _ (v3 % 256) [.int .u8 (v3 % 256)] from rfl) (Reps.none _ _))))); intro vl wl ho hb hg_ hn_; clear hg_ hn_; have n0 := am_ (Kd.R_elder' HR1.out (Kd.R_base ho) hb); have n1 := am_ (Kd.R_lower (Kd.R_new' ho (Kd.R_lt HR1.out)) (below_size HB1.out)); have n2 := am_ (below_step HB1.out hb); clear HR1 HB1 ho hb; have HR1 := n0; have HO1 := n1; have HB1 := n2; clear n0 n1 n2; obtain ⟨Ao, co, eo⟩ := Kd.R_slice HO1.out; subst eo)
       | ((with_reducible refine gate_builtin (b := .append) (xs := #[.tmp 22, .tmp 34]) rfl ?_); at_builtin; refine Kd.R_append_rows (Kd.int .u8) (w0 := W) W.heap.size rfl (.tmp 22) (.tmp 34) 27 5 (.int .u8 0) 1 rfl Tryz.underlying27 info5 rfl (by decide) (by omega) u6 (outBytes [v0, v1, v2, v3, v4, v5, v6, v7] 3) (wordBytes v3) _ _ _ (fun k_ => some k_ ≠ (.slice Ao (wordBytes v3).length co : Value).ownBlock) (fun _ => False) rfl rfl (Kd.R_mono HR1.out (fun _ hk => hk.2)) (Kd.R_reads' HO1.out).2.2 (fun _ _ h => h) (fun _ h => h.elim) (fun k_ hk => Kd.fresh' (Kd.R_lt HO1.out) k_ hk) HB1.out (below_size HB1.out) (by simp [outBytes, wordBytes]) ?_; intro va wa ho hb hg_ hn_; clear hg_ hn_))
      go_roundw
      case rel => exact ⟨4, by omega, by go_num, ⟨Kd.R_mono ho (fun _ _ => trivial)⟩, ⟨hb⟩⟩
      case measure => simp [intOf]
     ·go_wp2_with (first
       | ((with_reducible refine gate_dst (N := 34) rfl ?_); refine Kd.R_lit (Kd.int .u8) _ 5 ?hg (N := 34) ?hd (xs := wordBytes v4) (inner := [.int .u8 (v4 / 16777216 % 256), .int .u8 (v4 / 65536 % 256), .int .u8 (v4 / 256 % 256), .int .u8 (v4 % 256)]) (ok := fun _ => True) (okp := fun _ => True) ?hr ?hp (fun _ hk => hk) trivial (Below.refl _ _) (Nat.le_refl _) (by simp [wordBytes]) ?_; (case hd => rfl); (case hg => rfl); (case hr => first | (go_simp; done) | (go_simp; rfl)); (case hp => exact Reps.one (show Kd.M (Kd.int .u8) _ _ _ (v4 / 16777216 % 256) [.int .u8 (v4 / 16777216 % 256)] from rfl) (Reps.one (show Kd.M (Kd.int .u8) _ _ _ (v4 / 65536 % 256) [.int .u8 (v4 / 65536 % 256)] from rfl) (Reps.one (show Kd.M (Kd.int .u8) _ _ _ (v4 / 256 % 256) [.int .u8 (v4 / 256 % 256)] from rfl) (Reps.one (show Kd.M (Kd.int .u8) _ _ _ (v4 % 256) [.int .u8 (v4 % 256)] from rfl) (Reps.none _ _))))); intro vl wl ho hb hg_ hn_; clear hg_ hn_; have n0 := am_ (Kd.R_elder' HR1.out (Kd.R_base ho) hb); have n1 := am_ (Kd.R_lower (Kd.R_new' ho (Kd.R_lt HR1.out)) (below_size HB1.out)); have n2 := am_ (below_step HB1.out hb); clear HR1 HB1 ho hb; have HR1 := n0; have HO1 := n1; have HB1 := n2; clear n0 n1 n2; obtain ⟨Ao, co, eo⟩ := Kd.R_slice HO1.out; subst eo)
       | ((with_reducible refine gate_builtin (b := .append) (xs := #[.tmp 22, .tmp 34]) rfl ?_); at_builtin; refine Kd.R_append_rows (Kd.int .u8) (w0 := W) W.heap.size rfl (.tmp 22) (.tmp 34) 27 5 (.int .u8 0) 1 rfl Tryz.underlying27 info5 rfl (by decide) (by omega) u6 (outBytes [v0, v1, v2, v3, v4, v5, v6, v7] 4) (wordBytes v4) _ _ _ (fun k_ => some k_ ≠ (.slice Ao (wordBytes v4).length co : Value).ownBlock) (fun _ => False) rfl rfl (Kd.R_mono HR1.out (fun _ hk => hk.2)) (Kd.R_reads' HO1.out).2.2 (fun _ _ h => h) (fun _ h => h.elim) (fun k_ hk => Kd.fresh' (Kd.R_lt HO1.out) k_ hk) HB1.out (below_size HB1.out) (by simp [outBytes, wordBytes]) ?_; intro va wa ho hb hg_ hn_; clear hg_ hn_))
      go_roundw
      case rel => exact ⟨5, by omega, by go_num, ⟨Kd.R_mono ho (fun _ _ => trivial)⟩, ⟨hb⟩⟩
      case measure => simp [intOf]
     ·go_wp2_with (first
       | ((with_reducible refine gate_dst (N := 34) rfl ?_); refine Kd.R_lit (Kd.int .u8) _ 5 ?hg (N := 34) ?hd (xs := wordBytes v5) (inner := [.int .u8 (v5 / 16777216 % 256), .int .u8 (v5 / 65536 % 256), .int .u8 (v5 / 256 % 256), .int .u8 (v5 % 256)]) (ok := fun _ => True) (okp := fun _ => True) ?hr ?hp (fun _ hk => hk) trivial (Below.refl _ _) (Nat.le_refl _) (by simp [wordBytes]) ?_; (case hd => rfl); (case hg => rfl); (case hr => first | (go_simp; done) | (go_simp; rfl)); (case hp => exact Reps.one (show Kd.M (Kd.int .u8) _ _ _ (v5 / 16777216 % 256) [.int .u8 (v5 / 16777216 % 256)] from rfl) (Reps.one (show Kd.M (Kd.int .u8) _ _ _ (v5 / 65536 % 256) [.int .u8 (v5 / 65536 % 256)] from rfl) (Reps.one (show Kd.M (Kd.int .u8) _ _ _ (v5 / 256 % 256) [.int .u8 (v5 / 256 % 256)] from rfl) (Reps.one (show Kd.M (Kd.int .u8) _ _ _ (v5 % 256) [.int .u8 (v5 % 256)] from rfl) (Reps.none _ _))))); intro vl wl ho hb hg_ hn_; clear hg_ hn_; have n0 := am_ (Kd.R_elder' HR1.out (Kd.R_base ho) hb); have n1 := am_ (Kd.R_lower (Kd.R_new' ho (Kd.R_lt HR1.out)) (below_size HB1.out)); have n2 := am_ (below_step HB1.out hb); clear HR1 HB1 ho hb; have HR1 := n0; have HO1 := n1; have HB1 := n2; clear n0 n1 n2; obtain ⟨Ao, co, eo⟩ := Kd.R_slice HO1.out; subst eo)
       | ((with_reducible refine gate_builtin (b := .append) (xs := #[.tmp 22, .tmp 34]) rfl ?_); at_builtin; refine Kd.R_append_rows (Kd.int .u8) (w0 := W) W.heap.size rfl (.tmp 22) (.tmp 34) 27 5 (.int .u8 0) 1 rfl Tryz.underlying27 info5 rfl (by decide) (by omega) u6 (outBytes [v0, v1, v2, v3, v4, v5, v6, v7] 5) (wordBytes v5) _ _ _ (fun k_ => some k_ ≠ (.slice Ao (wordBytes v5).length co : Value).ownBlock) (fun _ => False) rfl rfl (Kd.R_mono HR1.out (fun _ hk => hk.2)) (Kd.R_reads' HO1.out).2.2 (fun _ _ h => h) (fun _ h => h.elim) (fun k_ hk => Kd.fresh' (Kd.R_lt HO1.out) k_ hk) HB1.out (below_size HB1.out) (by simp [outBytes, wordBytes]) ?_; intro va wa ho hb hg_ hn_; clear hg_ hn_))
      go_roundw
      case rel => exact ⟨6, by omega, by go_num, ⟨Kd.R_mono ho (fun _ _ => trivial)⟩, ⟨hb⟩⟩
      case measure => simp [intOf]
     ·go_wp2_with (first
       | ((with_reducible refine gate_dst (N := 34) rfl ?_); refine Kd.R_lit (Kd.int .u8) _ 5 ?hg (N := 34) ?hd (xs := wordBytes v6) (inner := [.int .u8 (v6 / 16777216 % 256), .int .u8 (v6 / 65536 % 256), .int .u8 (v6 / 256 % 256), .int .u8 (v6 % 256)]) (ok := fun _ => True) (okp := fun _ => True) ?hr ?hp (fun _ hk => hk) trivial (Below.refl _ _) (Nat.le_refl _) (by simp [wordBytes]) ?_; (case hd => rfl); (case hg => rfl); (case hr => first | (go_simp; done) | (go_simp; rfl)); (case hp => exact Reps.one (show Kd.M (Kd.int .u8) _ _ _ (v6 / 16777216 % 256) [.int .u8 (v6 / 16777216 % 256)] from rfl) (Reps.one (show Kd.M (Kd.int .u8) _ _ _ (v6 / 65536 % 256) [.int .u8 (v6 / 65536 % 256)] from rfl) (Reps.one (show Kd.M (Kd.int .u8) _ _ _ (v6 / 256 % 256) [.int .u8 (v6 / 256 % 256)] from rfl) (Reps.one (show Kd.M (Kd.int .u8) _ _ _ (v6 % 256) [.int .u8 (v6 % 256)] from rfl) (Reps.none _ _))))); intro vl wl ho hb hg_ hn_; clear hg_ hn_; have n0 := am_ (Kd.R_elder' HR1.out (Kd.R_base ho) hb); have n1 := am_ (Kd.R_lower (Kd.R_new' ho (Kd.R_lt HR1.out)) (below_size HB1.out)); have n2 := am_ (below_step HB1.out hb); clear HR1 HB1 ho hb; have HR1 := n0; have HO1 := n1; have HB1 := n2; clear n0 n1 n2; obtain ⟨Ao, co, eo⟩ := Kd.R_slice HO1.out; subst eo)
       | ((with_reducible refine gate_builtin (b := .append) (xs := #[.tmp 22, .tmp 34]) rfl ?_); at_builtin; refine Kd.R_append_rows (Kd.int .u8) (w0 := W) W.heap.size rfl (.tmp 22) (.tmp 34) 27 5 (.int .u8 0) 1 rfl Tryz.underlying27 info5 rfl (by decide) (by omega) u6 (outBytes [v0, v1, v2, v3, v4, v5, v6, v7] 6) (wordBytes v6) _ _ _ (fun k_ => some k_ ≠ (.slice Ao (wordBytes v6).length co : Value).ownBlock) (fun _ => False) rfl rfl (Kd.R_mono HR1.out (fun _ hk => hk.2)) (Kd.R_reads' HO1.out).2.2 (fun _ _ h => h) (fun _ h => h.elim) (fun k_ hk => Kd.fresh' (Kd.R_lt HO1.out) k_ hk) HB1.out (below_size HB1.out) (by simp [outBytes, wordBytes]) ?_; intro va wa ho hb hg_ hn_; clear hg_ hn_))
      go_roundw
      case rel => exact ⟨7, by omega, by go_num, ⟨Kd.R_mono ho (fun _ _ => trivial)⟩, ⟨hb⟩⟩
      case measure => simp [intOf]
     ·go_wp2_with (first
       | ((with_reducible refine gate_dst (N := 34) rfl ?_); refine Kd.R_lit (Kd.int .u8) _ 5 ?hg (N := 34) ?hd (xs := wordBytes v7) (inner := [.int .u8 (v7 / 16777216 % 256), .int .u8 (v7 / 65536 % 256), .int .u8 (v7 / 256 % 256), .int .u8 (v7 % 256)]) (ok := fun _ => True) (okp := fun _ => True) ?hr ?hp (fun _ hk => hk) trivial (Below.refl _ _) (Nat.le_refl _) (by simp [wordBytes]) ?_; (case hd => rfl); (case hg => rfl); (case hr => first | (go_simp; done) | (go_simp; rfl)); (case hp => exact Reps.one (show Kd.M (Kd.int .u8) _ _ _ (v7 / 16777216 % 256) [.int .u8 (v7 / 16777216 % 256)] from rfl) (Reps.one (show Kd.M (Kd.int .u8) _ _ _ (v7 / 65536 % 256) [.int .u8 (v7 / 65536 % 256)] from rfl) (Reps.one (show Kd.M (Kd.int .u8) _ _ _ (v7 / 256 % 256) [.int .u8 (v7 / 256 % 256)] from rfl) (Reps.one (show Kd.M (Kd.int .u8) _ _ _ (v7 % 256) [.int .u8 (v7 % 256)] from rfl) (Reps.none _ _))))); intro vl wl ho hb hg_ hn_; clear hg_ hn_; have n0 := am_ (Kd.R_elder' HR1.out (Kd.R_base ho) hb); have n1 := am_ (Kd.R_lower (Kd.R_new' ho (Kd.R_lt HR1.out)) (below_size HB1.out)); have n2 := am_ (below_step HB1.out hb); clear HR1 HB1 ho hb; have HR1 := n0; have HO1 := n1; have HB1 := n2; clear n0 n1 n2; obtain ⟨Ao, co, eo⟩ := Kd.R_slice HO1.out; subst eo)
       | ((with_reducible refine gate_builtin (b := .append) (xs := #[.tmp 22, .tmp 34]) rfl ?_); at_builtin; refine Kd.R_append_rows (Kd.int .u8) (w0 := W) W.heap.size rfl (.tmp 22) (.tmp 34) 27 5 (.int .u8 0) 1 rfl Tryz.underlying27 info5 rfl (by decide) (by omega) u6 (outBytes [v0, v1, v2, v3, v4, v5, v6, v7] 7) (wordBytes v7) _ _ _ (fun k_ => some k_ ≠ (.slice Ao (wordBytes v7).length co : Value).ownBlock) (fun _ => False) rfl rfl (Kd.R_mono HR1.out (fun _ hk => hk.2)) (Kd.R_reads' HO1.out).2.2 (fun _ _ h => h) (fun _ h => h.elim) (fun k_ hk => Kd.fresh' (Kd.R_lt HO1.out) k_ hk) HB1.out (below_size HB1.out) (by simp [outBytes, wordBytes]) ?_; intro va wa ho hb hg_ hn_; clear hg_ hn_))
      go_roundw
      case rel => exact ⟨8, by omega, by go_num, ⟨Kd.R_mono ho (fun _ _ => trivial)⟩, ⟨hb⟩⟩
      case measure => simp [intOf]
    ·obtain rfl : k = 8 := by omega
     have b20 : decide (((8 : Nat) : Int) < 8) = false := by decide
     have hcv := own_string (P := Tryz.prog) Tryz.underlying27 Tryz.underlying5 Tryz.underlying9 (Kd.own_of_R HR1.out)
     go_wp2
     have hK' : wr.heap[D]? = some (.deferred (some [])) := (HB1.out.block D (Array.getElem?_eq_some_iff.1 HKD.out).1).trans HKD.out
     refine ⟨by simp, .inl ⟨_, _, rfl, run_takeDeferred hK', ?_⟩⟩
     have hsha : sha l0 = strOfNums (outBytes [v0, v1, v2, v3, v4, v5, v6, v7] 8) := by
      rw [sha, shaBytes, HV.out]
     have hBz : Below w.heap.size w (wr.putObj D (.deferred none)) := by
      have hsz := HBB.out.size
      have hD := HD.out
      have h1 : Below w.heap.size w wr := HBB.out.trans (HB1.out.mono hsz)
      have h2 := HL.out.2
      have h3 := HB3.out.size
      have h4 := HS4.out
      exact h1.trans (belowK_b (w := w) (Nat.le_refl _) wr D _ _ (by omega) hK' rfl rfl)
     rw [hsha]
     refine ⟨.string (strOfNums (outBytes [v0, v1, v2, v3, v4, v5, v6, v7] 8)), ?_, rfl, hBz⟩
     simp [results, Tryz.f133, go_sem]
 ·rw [if_neg hl] at h
  cases h
end Go.Proofs.YtnlndmoecljicaaGreat.Q
end
