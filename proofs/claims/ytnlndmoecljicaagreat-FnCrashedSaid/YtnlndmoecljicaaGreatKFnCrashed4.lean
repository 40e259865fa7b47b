-- Joined and shortened by a program of this session (wip/tools/shakecopy.py): the words of the print,texts of pp.sh and of mine.
import Derived.Test.YtnlndmoecljicaaGreatKFnCrashed3
import Derived.RangeFuncNested
import Derived.RangeFuncBound
import Derived.RangeFuncCalls
import Derived.RangeFuncLeaves
import Derived.Shelf.Abstract
import Derived.Shelf.RegionOpen
import Derived.WalkKit
import Derived.OwnWalkIn
import Derived.TacticsInMore
import Derived.LoopNIn
import Derived.LoopIn
import Derived.WalkLawsBesides
import Derived.IntWalk
import Derived.RegionIn
import Derived.Outline
set_option linter.unusedVariables false
set_option linter.unusedSimpArgs false
section
namespace Go.Proofs.YtnlndmoecljicaaGreat.Q
open Go.Proofs.YtnlndmoecljicaaGreatW.PrintLast Go.Proofs.YtnlndmoecljicaaGreatW.PrintMore Go.Proofs.YtnlndmoecljicaaGreatW.PrintWords Go.RowKit
attribute [local go_sem] max2_int min2_int max_two min_two max_three min_three max_four min_four
set_option maxHeartbeats 8000000
set_option maxRecDepth 100000
theorem bs4_ {w w1 w2:World} {g1 g2 g3 g4:Nat} (h:Aside0 (Below w.heap.size w w1)) (e1:w.heap.size≤g1) (e2:w.heap.size≤g2) (e3:w.heap.size≤g3) (e4:w.heap.size≤g4) (g:Below w.heap.size w w1->w.heap.size≤g1->w.heap.size≤g2->w.heap.size≤g3->w.heap.size≤g4->Below w.heap.size w w2:=by intro h_ e1_ e2_ e3_ e4_;repeat (first|(with_reducible first|exact h_|apply below_alloc|apply pw_below_drewN|apply below_drew1|refine below_set ?_ e1_|refine below_set ?_ e2_|refine below_set ?_ e3_|refine below_set ?_ e4_)|exact h_)):Below w.heap.size w w2:=g h.out e1 e2 e3 e4
def spec_l14Draw.f (k:Nat) (s0_0:List Int) (s0_1:Int) (s0_2:Int):Option (Int × List ByteArray × Int × ByteArray × List Int × Int × Int × ByteArray × (List (S37)) × List ByteArray × Int × Int):=(spec_l12Draw.f k s0_0 s0_1 s0_2).bind fun bt2=>((spec_l1Below.f s0_0 bt2.2.2.2.2.2.2.2.1 bt2.2.2.2.2.2.2.2.2 4).bind fun bt20=>((spec_l1Once.f s0_0 bt20.2.1 bt20.2.2 2).bind fun bt24=>(if bt24.1=true then ((spec_BestHead.f k bt2.2.2.2.2.2.2.1).bind fun bt27=>(some (bt20.1,bt2.1,bt2.2.1,bt2.2.2.1,bt2.2.2.2.1,bt2.2.2.2.2.1,bt27.1,bt27.2,bt2.2.2.2.2.2.2.1,bt2.2.2.2.2.2.1,bt24.2.1,bt24.2.2))) else (some (bt20.1,bt2.1,bt2.2.1,bt2.2.2.1,bt2.2.2.2.1,bt2.2.2.2.2.1,bt2.2.1,bt2.2.2.1,bt2.2.2.2.2.2.2.1,bt2.2.2.2.2.2.1,bt24.2.1,bt24.2.2)))))
def spec_l14Draw.T2:Bool × List (List Nat × List Nat):=(true,[([],[]),([0],[0]),([],[]),([],[]),([3],[3]),([4],[4]),([1,2,5],[1,2,5]),([],[]),([7,6,1,0,1,2,3,4,5,6,7],[6,7])])
def spec_l14Draw.B2:List Nat:=[0,1,0,0,8,24,63,0,255]
theorem spec_l14Draw.tab2:rtab .any (opsOf Tryz.f86 2)=spec_l14Draw.T2:=by kernel_rfl
theorem spec_l14Draw.bits2:waitsOk spec_l14Draw.T2.2 spec_l14Draw.B2=true:=by kernel_rfl
theorem spec_l14Draw.calls (k:Nat) (g:Nat) (s0_0:List Int) (s0_1:Int) (s0_2:Int) (r1:Int) (r2:List ByteArray) (r3:Int) (r4:ByteArray) (r5:List Int) (r6:Int) (r7:Int) (r8:ByteArray) (r9:List (S37)) (r10:List ByteArray) (r11:Int) (r12:Int) (w0 w:World) (hI:IsS105 w0 w g s0_0 s0_1 s0_2) (hB:Below w0.heap.size w0 w) (h:spec_l14Draw.f k s0_0 s0_1 s0_2=some (r1,r2,r3,r4,r5,r6,r7,r8,r9,r10,r11,r12)) :
  Calls Tryz.prog 86 #[.pointer (some ⟨g,0,none⟩)] w fun e w'=>∃ v1_ v4_ v8_ v9_:Value,e = .returned (.tuple #[.agg #[.int .i64 r1,v1_,.int .i64 r3,.string r4,v4_,.int .i64 r6,.int .i64 r7,.string r8],v8_,v9_])∧Kd.R Kd.string 9 w' w.heap.size (fun k_=>some k_ ≠ (v9_:Value).ownBlock) v1_ r2∧Kd.R (Kd.int .u8) 5 w' w.heap.size (fun _=>True) v4_ r5∧Kd.R k37 37 w' w.heap.size (fun _=>True) v8_ r9∧Kd.R Kd.string 9 w' w.heap.size (fun k_=>some k_ ≠ (v1_:Value).ownBlock) v9_ r10∧IsS105 w0 w' g s0_0 r11 r12∧Below w0.heap.size w0 w'∧KeepBut w w' g none:=by
 have hu43:=Tryz.underlying43
 have hu41:=Tryz.underlying41
 have hu37:=Tryz.underlying37
 have HI0:=am_ hI
 have HK:=am_ (KeepBut.refl w g none)
 have HL:=am_ hB.size
 clear hI
 have HW0:=am_ hB.size
 have HB:=am_ hB
 clear hB
 have H:((spec_l12Draw.f k s0_0 s0_1 s0_2).bind fun bt2=>((spec_l1Below.f s0_0 bt2.2.2.2.2.2.2.2.1 bt2.2.2.2.2.2.2.2.2 4).bind fun bt20=>((spec_l1Once.f s0_0 bt20.2.1 bt20.2.2 2).bind fun bt24=>(if bt24.1=true then ((spec_BestHead.f k bt2.2.2.2.2.2.2.1).bind fun bt27=>(some (bt20.1,bt2.1,bt2.2.1,bt2.2.2.1,bt2.2.2.2.1,bt2.2.2.2.2.1,bt27.1,bt27.2,bt2.2.2.2.2.2.2.1,bt2.2.2.2.2.2.1,bt24.2.1,bt24.2.2))) else (some (bt20.1,bt2.1,bt2.2.1,bt2.2.2.1,bt2.2.2.2.1,bt2.2.2.2.2.1,bt2.2.1,bt2.2.2.1,bt2.2.2.2.2.2.2.1,bt2.2.2.2.2.2.1,bt24.2.1,bt24.2.2))))))=some (r1,r2,r3,r4,r5,r6,r7,r8,r9,r10,r11,r12):=h
 clear h
 replace H:=bi_ H;obtain ⟨⟨t602,t5,t6,t7,t10,t11,t14,t17,t18⟩,A2,H⟩:=H
 dsimp only at H
 replace H:=bi_ H;obtain ⟨⟨t20,t21,t22⟩,A3,H⟩:=H
 dsimp only at H
 replace H:=bi_ H;obtain ⟨⟨t24,t25,t26⟩,A4,H⟩:=H
 dsimp only at H
 go_enter Tryz.func86,Tryz.ntmps86
 try go_wp2_with (first|((with_reducible refine gd_ 2 ?_);refine x43_ 2 ?_;intro gb1 hg w7 hbox hb;replace HB:=am_ (below_step (bs1_ HB (IsS105.ge HI0.out)) hb);have BK1:=am_ hbox;have GW1:=gw_ hg HK;have GE1:=am_ (Nat.le_trans HW0.out (gw_ hg HK).out);replace HK:=am_ (KeepBut.trans (kn_ HK) (KeepBut.of_below hb g none) (.inl rfl));have NB0_1:=am_ ((by rw [hg];exact Nat.ne_of_lt (IsS105.lt (show IsS105 w0 _ g s0_0 s0_1 s0_2 from in105_ HI0)):g ≠ gb1));have NB1_0:=am_ ((by rw [hg];exact Nat.ne_of_gt (IsS105.lt (show IsS105 w0 _ g s0_0 s0_1 s0_2 from in105_ HI0)):gb1 ≠ g));replace HI0:=am_ (IsS105.below (in105_ HI0) hb);clear hb hbox hg)|((with_reducible refine gq_ 113 11 ?_);refine gc_ 11 Tryz.func113 (spec_l12Draw.calls k g s0_0 s0_1 s0_2 t602 t5 t6 t7 t10 t11 t14 t17 t18 w0 _ (in105_ HI0) (bi105_ HB) A2.out) ?_;rintro e w8 ⟨v3,v8,v12,v15,rfl,ho0,ho1,ho2,ho3,hi,hb,hk⟩;refine ⟨_,rfl,?_⟩;replace BK1:=kbk_ hk (kb_ BK1.out) NB1_0;have HO4:=am_ (Kd.R_lower ho0 (keep_size (w:=w) (g:=g) (row:=none) (kn_ HK)));have HO9:=am_ (Kd.R_lower ho1 (keep_size (w:=w) (g:=g) (row:=none) (kn_ HK)));have HO13:=am_ (Kd.R_lower ho2 (keep_size (w:=w) (g:=g) (row:=none) (kn_ HK)));have HO16:=am_ (Kd.R_lower ho3 (keep_size (w:=w) (g:=g) (row:=none) (kn_ HK)));replace HK:=ktr_ HK hk;replace HB:=am_ hb;replace HI0:=am_ hi;clear hb hk hi ho0 ho1 ho2 ho3)|((with_reducible refine gd_ 5 ?_);refine x41_ 5 ?_;intro gb19 hg w9 hbox hb;replace HO4:=rb_ HO4 hb;replace HO9:=rb_ HO9 hb;replace HO13:=rb_ HO13 hb;replace HO16:=rb_ HO16 hb;replace HB:=am_ (below_step (bs2_ HB (IsS105.ge HI0.out) GE1.out) hb);have BK19:=am_ hbox;have GW19:=gw_ hg HK;have GE19:=am_ (Nat.le_trans HW0.out (gw_ hg HK).out);replace HK:=am_ (KeepBut.trans (kn_ HK) (KeepBut.of_below hb g none) (.inl rfl));have NB1_19:=nla_ hg BK1;have NB19_1:=nga_ hg BK1;replace BK1:=kl_ BK1 hb;have NB0_19:=am_ ((by rw [hg];exact Nat.ne_of_lt (IsS105.lt (show IsS105 w0 _ g s0_0 t17 t18 from in105_ HI0)):g ≠ gb19));have NB19_0:=am_ ((by rw [hg];exact Nat.ne_of_gt (IsS105.lt (show IsS105 w0 _ g s0_0 t17 t18 from in105_ HI0)):gb19 ≠ g));replace HI0:=am_ (IsS105.below (in105_ HI0) hb);clear hb hbox hg;obtain ⟨Ao10,co10,eo10⟩:=Kd.R_slice HO4.out;subst eo10;have hnb11:=NB19_1.out;have hnc11:=NB1_19.out;have hnb12:=NB19_0.out;have hnc12:=NB0_19.out;have hz13:=cz5_ BK19;obtain ⟨Ao14,co14,eo14⟩:=Kd.R_slice HO9.out;subst eo14))
 obtain ⟨w15,hw_⟩:∃ w_:World,w_=(((((w9.setCell ⟨gb19,0,none⟩ (.slice Ao10 t602.length co10)).setCell ⟨gb19,1,none⟩ (.int .i64 t5)).setCell ⟨gb19,2,none⟩ (.string t6)).setCell ⟨gb19,3,none⟩ (.slice Ao14 t7.length co14)).setCell ⟨gb19,4,none⟩ (.int .i64 t10)):=⟨_,rfl⟩
 replace HO4:Aside0 (Kd.R Kd.string 9 w15 w.heap.size (fun k_=>some k_ ≠ (v12:Value).ownBlock) (.slice Ao10 t602.length co10) t602):=⟨by rw [hw_];exact kfm_ HO4 BK19⟩
 replace HO9:Aside0 (Kd.R (Kd.int .u8) 5 w15 w.heap.size (fun _=>True) (.slice Ao14 t7.length co14) t7):=⟨by rw [hw_];exact kfm_ HO9 BK19⟩
 replace HO13:Aside0 (Kd.R Kd.string 9 w15 w.heap.size (fun k_=>some k_ ≠ (.slice Ao10 t602.length co10:Value).ownBlock) v12 t11):=⟨by rw [hw_];exact kfm_ HO13 BK19⟩
 replace HO16:Aside0 (Kd.R k37 37 w15 w.heap.size (fun _=>True) v15 t14):=⟨by rw [hw_];exact kfm_ HO16 BK19⟩
 replace BK1:Aside0 (w15.heap[gb1]?=some (.cells #[.int .i64 0,.slice none 0 0,.int .i64 0,.string (⟨#[]⟩:ByteArray),.slice none 0 0,.int .i64 0,.int .i64 0,.string (⟨#[]⟩:ByteArray)] 43 (0,0))):=⟨by rw [hw_];exact kq_ BK1⟩
 replace BK19:Aside0 (w15.heap[gb19]?=some (.cells #[.slice Ao10 t602.length co10,.int .i64 t5,.string t6,.slice Ao14 t7.length co14,.int .i64 t10] 41 (0,0))):=⟨by rw [hw_];exact kq_ BK19⟩
 replace HI0:Aside0 (IsS105 w0 w15 g s0_0 t17 t18):=⟨by rw [hw_];exact in105_ HI0⟩
 replace HK:Aside0 (KeepBut w w15 g none):=⟨by rw [hw_];exact kn_ HK⟩
 replace HB:Aside0 (Below w0.heap.size w0 w15):=⟨by rw [hw_];exact bi105_ HB⟩
 rw [← hw_]
 clear hw_
 replace HO4:=am_ (Kd.R_drew HO4.out)
 replace HO9:=am_ (Kd.R_drew HO9.out)
 replace HO13:=am_ (Kd.R_drew HO13.out)
 replace HO16:=am_ (Kd.R_drew HO16.out)
 replace BK1:=bd_ BK1
 replace BK19:=bd_ BK19
 replace HI0:=am_ (IsS105.drew HI0.out)
 replace HK:=am_ (keep_drew HK.out)
 replace HB:=hd_ HB
 refine sw_ 9 (fun w'=>w'.cell? ⟨gb19,0,none⟩=some (.slice Ao10 t602.length co10)∧w'.cell? ⟨gb19,1,none⟩=some (.int .i64 t5)∧w'.cell? ⟨gb19,2,none⟩=some (.string t6)∧w'.cell? ⟨gb19,3,none⟩=some (.slice Ao14 t7.length co14)∧w'.cell? ⟨gb19,4,none⟩=some (.int .i64 t10)) [] spec_l14Draw.tab2 spec_l14Draw.bits2 ⟨bc0_ BK19.out,bc1_ BK19.out,bc2_ BK19.out,bc3_ BK19.out,bc4_ BK19.out⟩ (fun hHeld HT_ HW_=>?_)
 generalize w15.drew=w16 at HO4 HO9 HO13 HO16 BK1 BK19 HI0 HK HB hHeld ⊢
 refine pt_ 0 15 1 ?_
 refine pt_ 3 18 9 ?_
 refine pt_ 4 19 25 ?_
 refine tt_ 2 17 29 ?_
 refine tt_ 5 20 61 ?_
 refine join_ (σ:=Nat) 1 (lz_ 9 255) (fun s_=>[(16,.int .i64 t20),(8,.pointer (some ⟨s_,0,none⟩)),(21,.agg #[.int .i64 t20,.slice Ao10 t602.length co10,.int .i64 t5,.string t6,.slice Ao14 t7.length co14,.int .i64 t10,.int .i64 t5,.string t6])]) (fun s_ w'=>(w'.cell? ⟨gb19,0,none⟩=some (.slice Ao10 t602.length co10)∧w'.cell? ⟨gb19,1,none⟩=some (.int .i64 t5)∧w'.cell? ⟨gb19,2,none⟩=some (.string t6)∧w'.cell? ⟨gb19,3,none⟩=some (.slice Ao14 t7.length co14)∧w'.cell? ⟨gb19,4,none⟩=some (.int .i64 t10))∧(Kd.R Kd.string 9 w' w.heap.size (fun k_=>some k_ ≠ (v12:Value).ownBlock) (.slice Ao10 t602.length co10) t602)∧(Kd.R (Kd.int .u8) 5 w' w.heap.size (fun _=>True) (.slice Ao14 t7.length co14) t7)∧(Kd.R Kd.string 9 w' w.heap.size (fun k_=>some k_ ≠ (.slice Ao10 t602.length co10:Value).ownBlock) v12 t11)∧(Kd.R k37 37 w' w.heap.size (fun _=>True) v15 t14)∧(w'.heap[gb1]?=some (.cells #[.int .i64 0,.slice none 0 0,.int .i64 0,.string (⟨#[]⟩:ByteArray),.slice none 0 0,.int .i64 0,.int .i64 0,.string (⟨#[]⟩:ByteArray)] 43 (0,0)))∧(w'.heap[gb19]?=some (.cells #[.slice Ao10 t602.length co10,.int .i64 t5,.string t6,.slice Ao14 t7.length co14,.int .i64 t10] 41 (0,0)))∧(w'.heap[s_]?=some (.cells #[.int .i64 0,.slice none 0 0,.int .i64 0,.string (⟨#[]⟩:ByteArray),.slice none 0 0,.int .i64 0,.int .i64 0,.string (⟨#[]⟩:ByteArray)] 43 (0,0)))∧(w.heap.size≤s_)∧(w0.heap.size≤s_)∧(g ≠ s_)∧(s_ ≠ g)∧(gb1 ≠ s_)∧(s_ ≠ gb1)∧(gb19 ≠ s_)∧(s_ ≠ gb19)∧(IsS105 w0 w' g s0_0 t21 t22)∧(KeepBut w w' g none)∧(Below w0.heap.size w0 w')) ?_ ?_
 rotate_left
 ·intro hCont
  refine two_ (i:=1) (j:=7) (Ni:=some 16) (Nj:=some 8) (lz_ 9 63) (lz_ 9 189) rfl rfl rfl rfl (two_of HT_.out (by kernel_rfl)) (by decide) (by decide) (fun K hK=>?_) (fun K hK=>?_)
  ·skip
   refine gf_ Tryz.func87 (spec_l1Below.calls g s0_0 t17 t18 4 t20 t21 t22 w0 _ (in105_ HI0) (bi105_ HB) A3.out) ?_
   rintro e w17 ⟨rfl,hi,hb,hk⟩
   refine ⟨_,rfl,?_⟩
   replace BK1:=kbk_ hk (kb_ BK1.out) NB1_0
   have i_:=iw105_ hk (show IsS105 w0 _ g s0_0 t17 t18 from in105_ HI0)
   replace HO4:=rat105_ i_ (kr_ HO4.out) hk
   replace HO9:=rat105_ i_ (kr_ HO9.out) hk
   replace HO13:=rat105_ i_ (kr_ HO13.out) hk
   replace HO16:=rat105_ i_ (kr_ HO16.out) hk
   clear i_
   replace BK19:=kbk_ hk (kb_ BK19.out) NB19_0
   replace HK:=ktr_ HK hk
   replace HB:=am_ hb
   replace HI0:=am_ hi
   clear hb hk hi
   refine hK.out _ _ ⟨bc0_ BK19.out,bc1_ BK19.out,bc2_ BK19.out,bc3_ BK19.out,bc4_ BK19.out⟩ (fun hHeld=>?_)
   clear hK K
   refine no_ 16 ?_
   refine pt_ 6 21 127 ?_
   refine oz_ 7 8 9 255 (fun K hK=>?_)
   refine bz_ 8 43 #[.int .i64 0,.slice none 0 0,.int .i64 0,.string (⟨#[]⟩:ByteArray),.slice none 0 0,.int .i64 0,.int .i64 0,.string (⟨#[]⟩:ByteArray)] ?_
   intro gb23 hg w18 hbox hb
   replace HO4:=rb_ HO4 hb
   replace HO9:=rb_ HO9 hb
   replace HO13:=rb_ HO13 hb
   replace HO16:=rb_ HO16 hb
   replace HB:=am_ (below_step (bs3_ HB (IsS105.ge HI0.out) GE1.out GE19.out) hb)
   have BK23:=am_ hbox
   have GW23:=gw_ hg HK
   have GE23:=am_ (Nat.le_trans HW0.out (gw_ hg HK).out)
   replace HK:=am_ (KeepBut.trans (kn_ HK) (KeepBut.of_below hb g none) (.inl rfl))
   have NB1_23:=nla_ hg BK1
   have NB23_1:=nga_ hg BK1
   replace BK1:=kl_ BK1 hb
   have NB19_23:=nla_ hg BK19
   have NB23_19:=nga_ hg BK19
   replace BK19:=kl_ BK19 hb
   have NB0_23:=am_ ((by rw [hg];exact Nat.ne_of_lt (IsS105.lt (show IsS105 w0 _ g s0_0 t21 t22 from in105_ HI0)):g ≠ gb23))
   have NB23_0:=am_ ((by rw [hg];exact Nat.ne_of_gt (IsS105.lt (show IsS105 w0 _ g s0_0 t21 t22 from in105_ HI0)):gb23 ≠ g))
   replace HI0:=am_ (IsS105.below (in105_ HI0) hb)
   clear hb hbox hg
   refine hK.out _ _ ⟨bc0_ BK19.out,bc1_ BK19.out,bc2_ BK19.out,bc3_ BK19.out,bc4_ BK19.out⟩ (fun hHeld=>?_)
   clear hK K
   refine no_ 8 ?_
   exact norm_ (by simp only [putAll,Act.put,List.setIfInBounds_toArray,List.set_cons_zero,List.set_cons_succ]) (hCont (gb23) _ ⟨hHeld,(kr_ HO4.out),(kr_ HO9.out),(kr_ HO13.out),(kr_ HO16.out),(kb_ BK1.out),(kb_ BK19.out),(kb_ BK23.out),GW23.out,GE23.out,NB0_23.out,NB23_0.out,NB1_23.out,NB23_1.out,NB19_23.out,NB23_19.out,(in105_ HI0),(kn_ HK),(bs4_ HB (IsS105.ge HI0.out) GE1.out GE19.out GE23.out)⟩)
  ·skip
   refine bz_ 8 43 #[.int .i64 0,.slice none 0 0,.int .i64 0,.string (⟨#[]⟩:ByteArray),.slice none 0 0,.int .i64 0,.int .i64 0,.string (⟨#[]⟩:ByteArray)] ?_
   intro gb23 hg w17 hbox hb
   replace HO4:=rb_ HO4 hb
   replace HO9:=rb_ HO9 hb
   replace HO13:=rb_ HO13 hb
   replace HO16:=rb_ HO16 hb
   replace HB:=am_ (below_step (bs3_ HB (IsS105.ge HI0.out) GE1.out GE19.out) hb)
   have BK23:=am_ hbox
   have GW23:=gw_ hg HK
   have GE23:=am_ (Nat.le_trans HW0.out (gw_ hg HK).out)
   replace HK:=am_ (KeepBut.trans (kn_ HK) (KeepBut.of_below hb g none) (.inl rfl))
   have NB1_23:=nla_ hg BK1
   have NB23_1:=nga_ hg BK1
   replace BK1:=kl_ BK1 hb
   have NB19_23:=nla_ hg BK19
   have NB23_19:=nga_ hg BK19
   replace BK19:=kl_ BK19 hb
   have NB0_23:=am_ ((by rw [hg];exact Nat.ne_of_lt (IsS105.lt (show IsS105 w0 _ g s0_0 t17 t18 from in105_ HI0)):g ≠ gb23))
   have NB23_0:=am_ ((by rw [hg];exact Nat.ne_of_gt (IsS105.lt (show IsS105 w0 _ g s0_0 t17 t18 from in105_ HI0)):gb23 ≠ g))
   replace HI0:=am_ (IsS105.below (in105_ HI0) hb)
   clear hb hbox hg
   refine hK.out _ _ ⟨bc0_ BK19.out,bc1_ BK19.out,bc2_ BK19.out,bc3_ BK19.out,bc4_ BK19.out⟩ (fun hHeld=>?_)
   clear hK K
   refine no_ 8 ?_
   refine oz_ 1 16 9 191 (fun K hK=>?_)
   refine gf_ Tryz.func87 (spec_l1Below.calls g s0_0 t17 t18 4 t20 t21 t22 w0 _ (in105_ HI0) (bi105_ HB) A3.out) ?_
   rintro e w18 ⟨rfl,hi,hb,hk⟩
   refine ⟨_,rfl,?_⟩
   replace BK1:=kbk_ hk (kb_ BK1.out) NB1_0
   have i_:=iw105_ hk (show IsS105 w0 _ g s0_0 t17 t18 from in105_ HI0)
   replace HO4:=rat105_ i_ (kr_ HO4.out) hk
   replace HO9:=rat105_ i_ (kr_ HO9.out) hk
   replace HO13:=rat105_ i_ (kr_ HO13.out) hk
   replace HO16:=rat105_ i_ (kr_ HO16.out) hk
   clear i_
   replace BK19:=kbk_ hk (kb_ BK19.out) NB19_0
   replace BK23:=kbk_ hk (kb_ BK23.out) NB23_0
   replace HK:=ktr_ HK hk
   replace HB:=am_ hb
   replace HI0:=am_ hi
   clear hb hk hi
   refine hK.out _ _ ⟨bc0_ BK19.out,bc1_ BK19.out,bc2_ BK19.out,bc3_ BK19.out,bc4_ BK19.out⟩ (fun hHeld=>?_)
   clear hK K
   refine no_ 16 ?_
   refine pt_ 6 21 255 ?_
   exact norm_ (by simp only [putAll,Act.put,List.setIfInBounds_toArray,List.set_cons_zero,List.set_cons_succ]) (hCont (gb23) _ ⟨hHeld,(kr_ HO4.out),(kr_ HO9.out),(kr_ HO13.out),(kr_ HO16.out),(kb_ BK1.out),(kb_ BK19.out),(kb_ BK23.out),GW23.out,GE23.out,NB0_23.out,NB23_0.out,NB1_23.out,NB23_1.out,NB19_23.out,NB23_19.out,(in105_ HI0),(kn_ HK),(bs4_ HB (IsS105.ge HI0.out) GE1.out GE19.out GE23.out)⟩)
 rintro gb23 w19 ⟨hS_,h0_,h1_,h2_,h3_,h4_,h5_,h6_,h7_,h8_,h9_,h10_,h11_,h12_,h13_,h14_,h15_,h16_,h17_⟩
 have n0_:Aside0 (Kd.R Kd.string 9 w19 w.heap.size (fun k_=>some k_ ≠ (v12:Value).ownBlock) (.slice Ao10 t602.length co10) t602):=⟨h0_⟩
 have n1_:Aside0 (Kd.R (Kd.int .u8) 5 w19 w.heap.size (fun _=>True) (.slice Ao14 t7.length co14) t7):=⟨h1_⟩
 have n2_:Aside0 (Kd.R Kd.string 9 w19 w.heap.size (fun k_=>some k_ ≠ (.slice Ao10 t602.length co10:Value).ownBlock) v12 t11):=⟨h2_⟩
 have n3_:Aside0 (Kd.R k37 37 w19 w.heap.size (fun _=>True) v15 t14):=⟨h3_⟩
 have n4_:Aside0 (w19.heap[gb1]?=some (.cells #[.int .i64 0,.slice none 0 0,.int .i64 0,.string (⟨#[]⟩:ByteArray),.slice none 0 0,.int .i64 0,.int .i64 0,.string (⟨#[]⟩:ByteArray)] 43 (0,0))):=⟨h4_⟩
 have n5_:Aside0 (w19.heap[gb19]?=some (.cells #[.slice Ao10 t602.length co10,.int .i64 t5,.string t6,.slice Ao14 t7.length co14,.int .i64 t10] 41 (0,0))):=⟨h5_⟩
 have n6_:Aside0 (w19.heap[gb23]?=some (.cells #[.int .i64 0,.slice none 0 0,.int .i64 0,.string (⟨#[]⟩:ByteArray),.slice none 0 0,.int .i64 0,.int .i64 0,.string (⟨#[]⟩:ByteArray)] 43 (0,0))):=⟨h6_⟩
 have n7_:Aside0 (w.heap.size≤gb23):=⟨h7_⟩
 have n8_:Aside0 (w0.heap.size≤gb23):=⟨h8_⟩
 have n9_:Aside0 (g ≠ gb23):=⟨h9_⟩
 have n10_:Aside0 (gb23 ≠ g):=⟨h10_⟩
 have n11_:Aside0 (gb1 ≠ gb23):=⟨h11_⟩
 have n12_:Aside0 (gb23 ≠ gb1):=⟨h12_⟩
 have n13_:Aside0 (gb19 ≠ gb23):=⟨h13_⟩
 have n14_:Aside0 (gb23 ≠ gb19):=⟨h14_⟩
 have n15_:Aside0 (IsS105 w0 w19 g s0_0 t21 t22):=⟨h15_⟩
 have n16_:Aside0 (KeepBut w w19 g none):=⟨h16_⟩
 have n17_:Aside0 (Below w0.heap.size w0 w19):=⟨h17_⟩
 clear HO4
 clear HO9
 clear HO13
 clear HO16
 clear BK1
 clear BK19
 clear HI0
 clear HK
 clear HB
 clear h0_ h1_ h2_ h3_ h4_ h5_ h6_ h7_ h8_ h9_ h10_ h11_ h12_ h13_ h14_ h15_ h16_ h17_
 have HO4:=n0_
 have HO9:=n1_
 have HO13:=n2_
 have HO16:=n3_
 have BK1:=n4_
 have BK19:=n5_
 have BK23:=n6_
 have GW23:=n7_
 have GE23:=n8_
 have NB0_23:=n9_
 have NB23_0:=n10_
 have NB1_23:=n11_
 have NB23_1:=n12_
 have NB19_23:=n13_
 have NB23_19:=n14_
 have HI0:=n15_
 have HK:=n16_
 have HB:=n17_
 clear n0_ n1_ n2_ n3_ n4_ n5_ n6_ n7_ n8_ n9_ n10_ n11_ n12_ n13_ n14_ n15_ n16_ n17_
 have hHeld:w19.cell? ⟨gb19,0,none⟩=some (.slice Ao10 t602.length co10)∧w19.cell? ⟨gb19,1,none⟩=some (.int .i64 t5)∧w19.cell? ⟨gb19,2,none⟩=some (.string t6)∧w19.cell? ⟨gb19,3,none⟩=some (.slice Ao14 t7.length co14)∧w19.cell? ⟨gb19,4,none⟩=some (.int .i64 t10):=hS_
 refine nj_ ?_
 refine one_ (i:=8) (N:=none) (lz_ 9 511) rfl rfl (one_of HT_.out (by kernel_rfl)) (by decide) (fun K hK=>?_)
 have hs20:=bc0_ BK23.out
 have hfs20:=blk_frozen BK23.out 0
 have hns20_0:=NB1_23.out
 have hns20_1:=NB19_23.out
 have hms20_0:=NB23_1.out
 have hms20_1:=NB23_19.out
 have hs21:=bc1_ BK23.out
 have hfs21:=blk_frozen BK23.out 1
 have hns21_0:=NB1_23.out
 have hns21_1:=NB19_23.out
 have hms21_0:=NB23_1.out
 have hms21_1:=NB23_19.out
 have hs22:=bc2_ BK23.out
 have hfs22:=blk_frozen BK23.out 2
 have hns22_0:=NB1_23.out
 have hns22_1:=NB19_23.out
 have hms22_0:=NB23_1.out
 have hms22_1:=NB23_19.out
 have hs23:=bc3_ BK23.out
 have hfs23:=blk_frozen BK23.out 3
 have hns23_0:=NB1_23.out
 have hns23_1:=NB19_23.out
 have hms23_0:=NB23_1.out
 have hms23_1:=NB23_19.out
 have hs24:=bc4_ BK23.out
 have hfs24:=blk_frozen BK23.out 4
 have hns24_0:=NB1_23.out
 have hns24_1:=NB19_23.out
 have hms24_0:=NB23_1.out
 have hms24_1:=NB23_19.out
 have hs25:=bc5_ BK23.out
 have hfs25:=blk_frozen BK23.out 5
 have hns25_0:=NB1_23.out
 have hns25_1:=NB19_23.out
 have hms25_0:=NB23_1.out
 have hms25_1:=NB23_19.out
 have hs26:=bc6_ BK23.out
 have hfs26:=blk_frozen BK23.out 6
 have hns26_0:=NB1_23.out
 have hns26_1:=NB19_23.out
 have hms26_0:=NB23_1.out
 have hms26_1:=NB23_19.out
 have hs27:=bc7_ BK23.out
 have hfs27:=blk_frozen BK23.out 7
 have hns27_0:=NB1_23.out
 have hns27_1:=NB19_23.out
 have hms27_0:=NB23_1.out
 have hms27_1:=NB23_19.out
 refine skip_ (w1:=?_) (by rfl) rfl ?_ ?_
 rotate_left
 ·go_simp
  rfl
 refine hK.out _ _ ⟨(cf_ NB19_23 hHeld.1),(cf_ NB19_23 hHeld.2.1),(cf_ NB19_23 hHeld.2.2.1),(cf_ NB19_23 hHeld.2.2.2.1),(cf_ NB19_23 hHeld.2.2.2.2)⟩ (fun hHeld=>?_)
 clear hK K
 refine dn_ ?_
 replace H:=itb_ H;obtain ⟨rfl,H⟩|⟨rfl,H⟩:=H
 ·replace H:=bi_ H;obtain ⟨⟨t27,t28⟩,A6,H⟩:=H
  dsimp only at H
  simp only [Option.some.injEq,Prod.mk.injEq] at H
  obtain ⟨rfl,rfl,rfl,rfl,rfl,rfl,rfl,rfl,rfl,rfl,rfl,rfl⟩:=H
  try go_wp2_with (first|((with_reducible refine gq_ 114 23 ?_);refine gc_ 23 Tryz.func114 (spec_l1Once.calls g s0_0 t21 t22 2 true t25 t26 w0 _ (in105_ HI0) (bi105_ HB) A4.out) ?_;rintro e w28 ⟨rfl,hi,hb,hk⟩;refine ⟨_,rfl,?_⟩;replace BK1:=kbk_ hk (kq_ (o':=.cells #[.int .i64 0,.slice none 0 0,.int .i64 0,.string (⟨#[]⟩:ByteArray),.slice none 0 0,.int .i64 0,.int .i64 0,.string (⟨#[]⟩:ByteArray)] 43 (0,0)) BK1) NB1_0;have i_:=iw105_ hk (show IsS105 w0 _ g s0_0 t21 t22 from in105_ HI0);replace HO4:=rat105_ i_ (kf_ HO4 BK23) hk;replace HO9:=rat105_ i_ (kf_ HO9 BK23) hk;replace HO13:=rat105_ i_ (kf_ HO13 BK23) hk;replace HO16:=rat105_ i_ (kf_ HO16 BK23) hk;clear i_;replace BK23:=kbk_ hk (kq_ (o':=.cells #[.int .i64 t20,.slice Ao10 t602.length co10,.int .i64 t5,.string t6,.slice Ao14 t7.length co14,.int .i64 t10,.int .i64 t5,.string t6] 43 (0,0)) BK23) NB23_0;replace HK:=ktr_ HK hk;replace HB:=am_ hb;replace HI0:=am_ hi;clear hb hk hi;obtain ⟨Ao29,co29,eo29⟩:=Kd.R_slice HO16.out;subst eo29)|((with_reducible refine gq_ 115 25 ?_);refine gc_ 25 Tryz.func115 (spec_BestHead.calls k _ _ t14 t27 t28 _ (ch_ HO16) (cl_ HO16) A6.out) ?_;rintro e w30 ⟨rfl,hb⟩;refine ⟨_,rfl,?_⟩;replace HO4:=rb_ HO4 hb;replace HO9:=rb_ HO9 hb;replace HO13:=rb_ HO13 hb;replace HO16:=rb_ HO16 hb;replace BK1:=kl_ BK1 hb;replace BK23:=kl_ BK23 hb;replace HK:=am_ (KeepBut.trans (kn_ HK) (KeepBut.of_below hb g none) (.inl rfl));replace HB:=am_ (below_step (bs4_ HB (IsS105.ge HI0.out) GE1.out GE19.out GE23.out) hb);replace HI0:=am_ (IsS105.below (in105_ HI0) hb);clear hb;have hnb31:=NB23_1.out;have hnc31:=NB1_23.out;have hnb32:=NB23_19.out;have hnc32:=NB19_23.out;have hnb33:=NB23_0.out;have hnc33:=NB0_23.out;have hcz34:=cz8_ BK23;have hnb35:=NB1_0.out;have hnc35:=NB0_1.out;have hcz36:=cz8_ BK1))
  refine bodyPost_ret (rctt_ gb1 43 #[.int .i64 t20,.slice Ao10 t602.length co10,.int .i64 t5,.string t6,.slice Ao14 t7.length co14,.int .i64 t10,.int .i64 t27,.string t28] BK1 Tryz.underlying43) rfl ?_
  exact ⟨_,_,_,_,e2_,kfm2_ HO4 BK23 BK1,kfm2_ HO9 BK23 BK1,kfm2_ HO16 BK23 BK1,kfm2_ HO13 BK23 BK1,in105_ HI0,bi105_ HB,kn_ HK⟩
 ·simp only [Option.some.injEq,Prod.mk.injEq] at H
  obtain ⟨rfl,rfl,rfl,rfl,rfl,rfl,rfl,rfl,rfl,rfl,rfl,rfl⟩:=H
  try go_wp2_with (first|((with_reducible refine gq_ 114 23 ?_);refine gc_ 23 Tryz.func114 (spec_l1Once.calls g s0_0 t21 t22 2 false t25 t26 w0 _ (in105_ HI0) (bi105_ HB) A4.out) ?_;rintro e w58 ⟨rfl,hi,hb,hk⟩;refine ⟨_,rfl,?_⟩;replace BK1:=kbk_ hk (kq_ (o':=.cells #[.int .i64 0,.slice none 0 0,.int .i64 0,.string (⟨#[]⟩:ByteArray),.slice none 0 0,.int .i64 0,.int .i64 0,.string (⟨#[]⟩:ByteArray)] 43 (0,0)) BK1) NB1_0;have i_:=iw105_ hk (show IsS105 w0 _ g s0_0 t21 t22 from in105_ HI0);replace HO4:=rat105_ i_ (kf_ HO4 BK23) hk;replace HO9:=rat105_ i_ (kf_ HO9 BK23) hk;replace HO13:=rat105_ i_ (kf_ HO13 BK23) hk;replace HO16:=rat105_ i_ (kf_ HO16 BK23) hk;clear i_;replace BK23:=kbk_ hk (kq_ (o':=.cells #[.int .i64 t20,.slice Ao10 t602.length co10,.int .i64 t5,.string t6,.slice Ao14 t7.length co14,.int .i64 t10,.int .i64 t5,.string t6] 43 (0,0)) BK23) NB23_0;replace HK:=ktr_ HK hk;replace HB:=am_ hb;replace HI0:=am_ hi;clear hb hk hi;have hnb59:=NB23_1.out;have hnc59:=NB1_23.out;have hnb60:=NB23_19.out;have hnc60:=NB19_23.out;have hnb61:=NB23_0.out;have hnc61:=NB0_23.out;have hcz62:=cz8_ BK23;have hnb63:=NB1_0.out;have hnc63:=NB0_1.out;have hcz64:=cz8_ BK1))
  refine bodyPost_ret (rctt_ gb1 43 #[.int .i64 t20,.slice Ao10 t602.length co10,.int .i64 t5,.string t6,.slice Ao14 t7.length co14,.int .i64 t10,.int .i64 t5,.string t6] BK1 Tryz.underlying43) rfl ?_
  exact ⟨_,_,_,_,e2_,kfm_ HO4 BK1,kfm_ HO9 BK1,kfm_ HO16 BK1,kfm_ HO13 BK1,in105_ HI0,bi105_ HB,kn_ HK⟩
def spec_l14Any.f (k:Nat) (s0_0:List Int) (s0_1:Int) (s0_2:Int):Option (Int × List ByteArray × Int × ByteArray × List Int × Int × Int × ByteArray × (List (S37)) × List ByteArray × Int × Int):=(spec_l14Draw.f k s0_0 s0_1 s0_2).bind fun bt2=>((spec_l1Below.f s0_0 bt2.2.2.2.2.2.2.2.2.2.2.1 bt2.2.2.2.2.2.2.2.2.2.2.2 12).bind fun bt23=>(if bt23.1=0 then ((spec_l1Int.f s0_0 bt23.2.1 bt23.2.2 (([(-1),21,20]:List Int))).bind fun bt29=>(some (bt29.1,bt2.2.1,bt2.2.2.1,bt2.2.2.2.1,bt2.2.2.2.2.1,bt2.2.2.2.2.2.1,bt2.2.2.2.2.2.2.1,bt2.2.2.2.2.2.2.2.1,bt2.2.2.2.2.2.2.2.2.1,bt2.2.2.2.2.2.2.2.2.2.1,bt29.2.1,bt29.2.2))) else (if bt23.1=1 then ((spec_l10Any.f k s0_0 bt23.2.1 bt23.2.2).bind fun bt32=>(if 0 < (bt32.1.length:Int) then (some (bt2.1,bt2.2.1,bt2.2.2.1,bt2.2.2.2.1,bt2.2.2.2.2.1,bt2.2.2.2.2.2.1,(rd_T37 bt32.1 0).f0,(rd_T37 bt32.1 0).f1,bt2.2.2.2.2.2.2.2.2.1,bt2.2.2.2.2.2.2.2.2.2.1,bt32.2.1,bt32.2.2)) else (none))) else (if bt23.1=2 then ((spec_l12Any.f k s0_0 bt23.2.1 bt23.2.2).bind fun bt38=>(some (bt2.1,bt38.1,bt38.2.1,bt38.2.2.1,bt38.2.2.2.1,bt38.2.2.2.2.1,bt2.2.2.2.2.2.2.1,bt2.2.2.2.2.2.2.2.1,bt2.2.2.2.2.2.2.2.2.1,bt2.2.2.2.2.2.2.2.2.2.1,bt38.2.2.2.2.2.1,bt38.2.2.2.2.2.2))) else (some (bt2.1,bt2.2.1,bt2.2.2.1,bt2.2.2.2.1,bt2.2.2.2.2.1,bt2.2.2.2.2.2.1,bt2.2.2.2.2.2.2.1,bt2.2.2.2.2.2.2.2.1,bt2.2.2.2.2.2.2.2.2.1,bt2.2.2.2.2.2.2.2.2.2.1,bt23.2.1,bt23.2.2))))))
theorem spec_l14Any.calls (k:Nat) (g:Nat) (s0_0:List Int) (s0_1:Int) (s0_2:Int) (r1:Int) (r2:List ByteArray) (r3:Int) (r4:ByteArray) (r5:List Int) (r6:Int) (r7:Int) (r8:ByteArray) (r9:List (S37)) (r10:List ByteArray) (r11:Int) (r12:Int) (w0 w:World) (hI:IsS105 w0 w g s0_0 s0_1 s0_2) (hB:Below w0.heap.size w0 w) (h:spec_l14Any.f k s0_0 s0_1 s0_2=some (r1,r2,r3,r4,r5,r6,r7,r8,r9,r10,r11,r12)) :
  Calls Tryz.prog 52 #[.pointer (some ⟨g,0,none⟩)] w fun e w'=>∃ v1_ v4_ v8_ v9_:Value,e = .returned (.tuple #[.agg #[.int .i64 r1,v1_,.int .i64 r3,.string r4,v4_,.int .i64 r6,.int .i64 r7,.string r8],v8_,v9_])∧Kd.R Kd.string 9 w' w.heap.size (fun k_=>some k_ ≠ (v9_:Value).ownBlock) v1_ r2∧Kd.R (Kd.int .u8) 5 w' w.heap.size (fun _=>True) v4_ r5∧Kd.R k37 37 w' w.heap.size (fun _=>True) v8_ r9∧Kd.R Kd.string 9 w' w.heap.size (fun k_=>some k_ ≠ (v1_:Value).ownBlock) v9_ r10∧IsS105 w0 w' g s0_0 r11 r12∧Below w0.heap.size w0 w'∧KeepBut w w' g none:=by
 have hu43:=Tryz.underlying43
 have hu37:=Tryz.underlying37
 have hu41:=Tryz.underlying41
 have HI0:=am_ hI
 have HK:=am_ (KeepBut.refl w g none)
 have HL:=am_ hB.size
 clear hI
 have HW0:=am_ hB.size
 have HB:=am_ hB
 clear hB
 have H:((spec_l14Draw.f k s0_0 s0_1 s0_2).bind fun bt2=>((spec_l1Below.f s0_0 bt2.2.2.2.2.2.2.2.2.2.2.1 bt2.2.2.2.2.2.2.2.2.2.2.2 12).bind fun bt23=>(if bt23.1=0 then ((spec_l1Int.f s0_0 bt23.2.1 bt23.2.2 (([(-1),21,20]:List Int))).bind fun bt29=>(some (bt29.1,bt2.2.1,bt2.2.2.1,bt2.2.2.2.1,bt2.2.2.2.2.1,bt2.2.2.2.2.2.1,bt2.2.2.2.2.2.2.1,bt2.2.2.2.2.2.2.2.1,bt2.2.2.2.2.2.2.2.2.1,bt2.2.2.2.2.2.2.2.2.2.1,bt29.2.1,bt29.2.2))) else (if bt23.1=1 then ((spec_l10Any.f k s0_0 bt23.2.1 bt23.2.2).bind fun bt32=>(if 0 < (bt32.1.length:Int) then (some (bt2.1,bt2.2.1,bt2.2.2.1,bt2.2.2.2.1,bt2.2.2.2.2.1,bt2.2.2.2.2.2.1,(rd_T37 bt32.1 0).f0,(rd_T37 bt32.1 0).f1,bt2.2.2.2.2.2.2.2.2.1,bt2.2.2.2.2.2.2.2.2.2.1,bt32.2.1,bt32.2.2)) else (none))) else (if bt23.1=2 then ((spec_l12Any.f k s0_0 bt23.2.1 bt23.2.2).bind fun bt38=>(some (bt2.1,bt38.1,bt38.2.1,bt38.2.2.1,bt38.2.2.2.1,bt38.2.2.2.2.1,bt2.2.2.2.2.2.2.1,bt2.2.2.2.2.2.2.2.1,bt2.2.2.2.2.2.2.2.2.1,bt2.2.2.2.2.2.2.2.2.2.1,bt38.2.2.2.2.2.1,bt38.2.2.2.2.2.2))) else (some (bt2.1,bt2.2.1,bt2.2.2.1,bt2.2.2.2.1,bt2.2.2.2.2.1,bt2.2.2.2.2.2.1,bt2.2.2.2.2.2.2.1,bt2.2.2.2.2.2.2.2.1,bt2.2.2.2.2.2.2.2.2.1,bt2.2.2.2.2.2.2.2.2.2.1,bt23.2.1,bt23.2.2)))))))=some (r1,r2,r3,r4,r5,r6,r7,r8,r9,r10,r11,r12):=h
 clear h
 replace H:=bi_ H;obtain ⟨⟨t602,t3,t6,t7,t8,t11,t12,t13,t14,t17,t20,t21⟩,A2,H⟩:=H
 dsimp only at H
 replace H:=bi_ H;obtain ⟨⟨t23,t24,t25⟩,A3,H⟩:=H
 dsimp only at H
 go_enter Tryz.func52,Tryz.ntmps52
 go_upto_if 16 with (first|((with_reducible refine gd_ 2 ?_);refine x43_ 2 ?_;intro gb1 hg w6 hbox hb;replace HB:=am_ (below_step (bs1_ HB (IsS105.ge HI0.out)) hb);have BK1:=am_ hbox;have GW1:=gw_ hg HK;have GE1:=am_ (Nat.le_trans HW0.out (gw_ hg HK).out);replace HK:=am_ (KeepBut.trans (kn_ HK) (KeepBut.of_below hb g none) (.inl rfl));have NB0_1:=am_ ((by rw [hg];exact Nat.ne_of_lt (IsS105.lt (show IsS105 w0 _ g s0_0 s0_1 s0_2 from in105_ HI0)):g ≠ gb1));have NB1_0:=am_ ((by rw [hg];exact Nat.ne_of_gt (IsS105.lt (show IsS105 w0 _ g s0_0 s0_1 s0_2 from in105_ HI0)):gb1 ≠ g));replace HI0:=am_ (IsS105.below (in105_ HI0) hb);clear hb hbox hg)|((with_reducible refine gq_ 86 10 ?_);refine gc_ 10 Tryz.func86 (spec_l14Draw.calls k g s0_0 s0_1 s0_2 t602 t3 t6 t7 t8 t11 t12 t13 t14 t17 t20 t21 w0 _ (in105_ HI0) (bi105_ HB) A2.out) ?_;rintro e w7 ⟨v4,v9,v15,v18,rfl,ho0,ho1,ho2,ho3,hi,hb,hk⟩;refine ⟨_,rfl,?_⟩;replace BK1:=kbk_ hk (kb_ BK1.out) NB1_0;have HO5:=am_ (Kd.R_lower ho0 (keep_size (w:=w) (g:=g) (row:=none) (kn_ HK)));have HO10:=am_ (Kd.R_lower ho1 (keep_size (w:=w) (g:=g) (row:=none) (kn_ HK)));have HO16:=am_ (Kd.R_lower ho2 (keep_size (w:=w) (g:=g) (row:=none) (kn_ HK)));have HO19:=am_ (Kd.R_lower ho3 (keep_size (w:=w) (g:=g) (row:=none) (kn_ HK)));replace HK:=ktr_ HK hk;replace HB:=am_ hb;replace HI0:=am_ hi;clear hb hk hi ho0 ho1 ho2 ho3)|((with_reducible refine gd_ 5 ?_);refine x43_ 5 ?_;intro gb22 hg w8 hbox hb;replace HO5:=rb_ HO5 hb;replace HO10:=rb_ HO10 hb;replace HO16:=rb_ HO16 hb;replace HO19:=rb_ HO19 hb;replace HB:=am_ (below_step (bs2_ HB (IsS105.ge HI0.out) GE1.out) hb);have BK22:=am_ hbox;have GW22:=gw_ hg HK;have GE22:=am_ (Nat.le_trans HW0.out (gw_ hg HK).out);replace HK:=am_ (KeepBut.trans (kn_ HK) (KeepBut.of_below hb g none) (.inl rfl));have NB1_22:=nla_ hg BK1;have NB22_1:=nga_ hg BK1;replace BK1:=kl_ BK1 hb;have NB0_22:=am_ ((by rw [hg];exact Nat.ne_of_lt (IsS105.lt (show IsS105 w0 _ g s0_0 t20 t21 from in105_ HI0)):g ≠ gb22));have NB22_0:=am_ ((by rw [hg];exact Nat.ne_of_gt (IsS105.lt (show IsS105 w0 _ g s0_0 t20 t21 from in105_ HI0)):gb22 ≠ g));replace HI0:=am_ (IsS105.below (in105_ HI0) hb);clear hb hbox hg;have hnb9:=NB22_1.out;have hnc9:=NB1_22.out;have hnb10:=NB22_0.out;have hnc10:=NB0_22.out;have hcz11:=cz8_ BK22;obtain ⟨Ao12,co12,eo12⟩:=Kd.R_slice HO5.out;subst eo12;obtain ⟨Ao13,co13,eo13⟩:=Kd.R_slice HO10.out;subst eo13)|((with_reducible refine gq_ 87 15 ?_);refine gc_ 15 Tryz.func87 (spec_l1Below.calls g s0_0 t20 t21 12 t23 t24 t25 w0 _ (in105_ HI0) (bi105_ HB) A3.out) ?_;rintro e w14 ⟨rfl,hi,hb,hk⟩;refine ⟨_,rfl,?_⟩;replace BK1:=kbk_ hk (kq_ (o':=.cells #[.int .i64 0,.slice none 0 0,.int .i64 0,.string (⟨#[]⟩:ByteArray),.slice none 0 0,.int .i64 0,.int .i64 0,.string (⟨#[]⟩:ByteArray)] 43 (0,0)) BK1) NB1_0;have i_:=iw105_ hk (show IsS105 w0 _ g s0_0 t20 t21 from in105_ HI0);replace HO5:=rat105_ i_ (kf_ HO5 BK22) hk;replace HO10:=rat105_ i_ (kf_ HO10 BK22) hk;replace HO16:=rat105_ i_ (kf_ HO16 BK22) hk;replace HO19:=rat105_ i_ (kf_ HO19 BK22) hk;clear i_;replace BK22:=kbk_ hk (kq_ (o':=.cells #[.int .i64 t602,.slice Ao12 t3.length co12,.int .i64 t6,.string t7,.slice Ao13 t8.length co13,.int .i64 t11,.int .i64 t12,.string t13] 43 (0,0)) BK22) NB22_0;replace HK:=ktr_ HK hk;replace HB:=am_ hb;replace HI0:=am_ hi;clear hb hk hi))
 (try simp only [Act.put,List.setIfInBounds_toArray,List.set_cons_zero,List.set_cons_succ])
 replace H:=it_ H;obtain ⟨c4,H⟩|⟨c4,H⟩:=H
 ·have c4b0:(t23 == 0)=true:=beq_iff_eq.mpr c4
  have c4b1:(t23 != 0)=false:=bne_eq_false_iff_eq.mpr c4
  clear c4
  obtain ⟨y26,hy26⟩:∃ y_:List Int,y_=(([(-1),21,20]:List Int)):=⟨_,rfl⟩
  replace H:((spec_l1Int.f s0_0 t24 t25 y26).bind fun bt29=>(some (bt29.1,t3,t6,t7,t8,t11,t12,t13,t14,t17,bt29.2.1,bt29.2.2)))=some (r1,r2,r3,r4,r5,r6,r7,r8,r9,r10,r11,r12):=yh_ hy26 H
  have Ny26:=am_ hy26
  clear hy26
  replace H:=bi_ H;obtain ⟨⟨t29,t30,t31⟩,A5,H⟩:=H
  dsimp only at H
  simp only [Option.some.injEq,Prod.mk.injEq] at H
  obtain ⟨rfl,rfl,rfl,rfl,rfl,rfl,rfl,rfl,rfl,rfl,rfl,rfl⟩:=H
  try go_wp2_with (first|((with_reducible refine gd_ 19 ?_);refine rl_ (Kd.int .i64) 3 19 ([(-1),21,20]:List Int) [.int .i64 (-1),.int .i64 21,.int .i64 20] ?_;intro v27 w15 ho16 hb hg_ hnew_;clear hg_ hnew_;(first|rw [← Ny26.out] at ho16|(simp only [Int.reduceToNat] at ho16;rw [← Ny26.out] at ho16));replace HO5:=rb_ HO5 hb;replace HO10:=rb_ HO10 hb;replace HO16:=rb_ HO16 hb;replace HO19:=rb_ HO19 hb;have HO28:=am_ (Kd.R_lower ho16 (keep_size (w:=w) (g:=g) (row:=none) (kn_ HK)));replace BK1:=kl_ BK1 hb;replace BK22:=kl_ BK22 hb;replace HK:=am_ (KeepBut.trans (kn_ HK) (KeepBut.of_below hb g none) (.inl rfl));replace HB:=am_ (below_step (bs3_ HB (IsS105.ge HI0.out) GE1.out GE22.out) hb);replace HI0:=am_ (IsS105.below (in105_ HI0) hb);clear hb ho16;obtain ⟨Ao17,co17,eo17⟩:=Kd.R_slice HO28.out;subst eo17)|((with_reducible refine gq_ 53 20 ?_);refine gc_ 20 Tryz.func53 (spec_l1Int.calls g s0_0 t24 t25 _ _ y26 t29 t30 t31 w0 _ (in105_ HI0) (bi105_ HB) (ch_ HO28) (cl_ HO28) (far_slice (IsS105.own_ne HI0.out HO28.out (by decide))) A5.out) ?_;rintro e w18 ⟨rfl,hi,hb,hk⟩;refine ⟨_,rfl,?_⟩;replace BK1:=kbk_ hk (kb_ BK1.out) NB1_0;have i_:=iw105_ hk (show IsS105 w0 _ g s0_0 t24 t25 from in105_ HI0);replace HO5:=rat105_ i_ (kr_ HO5.out) hk;replace HO10:=rat105_ i_ (kr_ HO10.out) hk;replace HO16:=rat105_ i_ (kr_ HO16.out) hk;replace HO19:=rat105_ i_ (kr_ HO19.out) hk;replace BK22:=kbk_ hk (kb_ BK22.out) NB22_0;replace HO28:=rat105_ i_ (kr_ HO28.out) hk;clear i_;replace HK:=ktr_ HK hk;replace HB:=am_ hb;replace HI0:=am_ hi;clear hb hk hi;have hcz19:=cz8_ BK22;have hnb20:=NB1_0.out;have hnc20:=NB0_1.out;have hcz21:=cz8_ BK1))
  refine bodyPost_ret (rctt_ gb1 43 #[.int .i64 t29,.slice Ao12 t3.length co12,.int .i64 t6,.string t7,.slice Ao13 t8.length co13,.int .i64 t11,.int .i64 t12,.string t13] BK1 Tryz.underlying43) rfl ?_
  exact ⟨_,_,_,_,e2_,kfm2_ HO5 BK22 BK1,kfm2_ HO10 BK22 BK1,kfm2_ HO16 BK22 BK1,kfm2_ HO19 BK22 BK1,in105_ HI0,bi105_ HB,kn_ HK⟩
 ·have c4b0:(t23 == 0)=false:=beq_eq_false_iff_ne.mpr c4
  have c4b1:(t23 != 0)=true:=bne_iff_ne.mpr c4
  replace H:=it_ H;obtain ⟨c22,H⟩|⟨c22,H⟩:=H
  ·have c22b0:(t23 == 1)=true:=beq_iff_eq.mpr c22
   have c22b1:(t23 != 1)=false:=bne_eq_false_iff_eq.mpr c22
   clear c22
   replace H:=bi_ H;obtain ⟨⟨t32,t35,t36⟩,A23,H⟩:=H
   dsimp only at H
   replace H:=ip_ H;obtain ⟨c24,H⟩:=H
   have c24b0:=decide_eq_true c24
   have c24b1:decide (0 < t32.length)=true:=decide_eq_true (by omega)
   clear c24
   simp only [Option.some.injEq,Prod.mk.injEq] at H
   obtain ⟨rfl,rfl,rfl,rfl,rfl,rfl,rfl,rfl,rfl,rfl,rfl,rfl⟩:=H
   try go_wp2_with (first|((with_reducible refine gq_ 88 25 ?_);refine gc_ 25 Tryz.func88 (spec_l10Any.calls k g s0_0 t24 t25 t32 t35 t36 w0 _ (in105_ HI0) (bi105_ HB) A23.out) ?_;rintro e w34 ⟨v33,rfl,ho0,hi,hb,hk⟩;refine ⟨_,rfl,?_⟩;replace BK1:=kbk_ hk (kb_ BK1.out) NB1_0;have i_:=iw105_ hk (show IsS105 w0 _ g s0_0 t24 t25 from in105_ HI0);replace HO5:=rat105_ i_ (kr_ HO5.out) hk;replace HO10:=rat105_ i_ (kr_ HO10.out) hk;replace HO19:=rat105_ i_ (kr_ HO19.out) hk;clear i_;replace BK22:=kbk_ hk (kb_ BK22.out) NB22_0;have HO34:=am_ (Kd.R_lower (Kd.R_new' ho0 (lt_ HO16)) (keep_size (w:=w) (g:=g) (row:=none) (kn_ HK)));replace HO16:=am_ (Kd.R_mono (Kd.R_told (Kd.R_oldK (IsS105.apart (show IsS105 w0 _ g s0_0 t24 t25 from in105_ HI0) (kr_ HO16.out) (by decide)) hk) (Kd.R_base ho0)) (fun _ h_=>h_.1));replace HK:=ktr_ HK hk;replace HB:=am_ hb;replace HI0:=am_ hi;clear hb hk hi ho0;obtain ⟨Ao35,co35,eo35⟩:=Kd.R_slice HO34.out;subst eo35;have p37:0≤(0:Int):=(by omega);have q37:0 < (t32.length:Int):=od_;obtain ⟨ad37,e37,hx37_0,hx37_1⟩:=at_T37 (Kd.R_reads' HO34.out).2.2 0 p37 q37;cases e37;have qi37:(0 < t32.length)=True:=eq_true (by omega);(try rw [show ((0:Int)).toNat=0 from rfl] at hx37_0);(try rw [show 0 * 2=0 from rfl] at hx37_0);(try rw [Addr.add_zero'] at hx37_0);(try rw [show ((0:Int)).toNat=0 from rfl] at hx37_1);(try rw [show 0 * 2=0 from rfl] at hx37_1);(try rw [Addr.add_zero'] at hx37_1);replace p37:=eq_true p37;replace q37:=eq_true q37;have hcz36:=cz8_ BK22;have hnb37:=NB1_0.out;have hnc37:=NB0_1.out;have hcz38:=cz8_ BK1))
   refine bodyPost_ret (rctt_ gb1 43 #[.int .i64 t602,.slice Ao12 t3.length co12,.int .i64 t6,.string t7,.slice Ao13 t8.length co13,.int .i64 t11,.int .i64 ((rd_T37 t32 0).f0),.string ((rd_T37 t32 0).f1)] BK1 Tryz.underlying43) rfl ?_
   exact ⟨_,_,_,_,e2_,kfm2_ HO5 BK22 BK1,kfm2_ HO10 BK22 BK1,kfm2_ HO16 BK22 BK1,kfm2_ HO19 BK22 BK1,in105_ HI0,bi105_ HB,kn_ HK⟩
  ·have c22b0:(t23 == 1)=false:=beq_eq_false_iff_ne.mpr c22
   have c22b1:(t23 != 1)=true:=bne_iff_ne.mpr c22
   replace H:=it_ H;obtain ⟨c39,H⟩|⟨c39,H⟩:=H
   ·have c39b0:(t23 == 2)=true:=beq_iff_eq.mpr c39
    have c39b1:(t23 != 2)=false:=bne_eq_false_iff_eq.mpr c39
    clear c39
    replace H:=bi_ H;obtain ⟨⟨t38,t41,t42,t43,t46,t47,t48⟩,A40,H⟩:=H
    dsimp only at H
    simp only [Option.some.injEq,Prod.mk.injEq] at H
    obtain ⟨rfl,rfl,rfl,rfl,rfl,rfl,rfl,rfl,rfl,rfl,rfl,rfl⟩:=H
    try go_wp2_with (first|((with_reducible refine gq_ 89 32 ?_);refine gc_ 32 Tryz.func89 (spec_l12Any.calls k g s0_0 t24 t25 t38 t41 t42 t43 t46 t47 t48 w0 _ (in105_ HI0) (bi105_ HB) A40.out) ?_;rintro e w50 ⟨v39,v44,rfl,ho0,ho1,hi,hb,hk⟩;refine ⟨_,rfl,?_⟩;replace BK1:=kbk_ hk (kb_ BK1.out) NB1_0;have i_:=iw105_ hk (show IsS105 w0 _ g s0_0 t24 t25 from in105_ HI0);replace HO16:=rat105_ i_ (kr_ HO16.out) hk;clear i_;replace BK22:=kbk_ hk (kb_ BK22.out) NB22_0;have HO40:=am_ (Kd.R_lower (Kd.R_new' (Kd.R_new' ho0 (lt_ HO5)) (lt_ HO19)) (keep_size (w:=w) (g:=g) (row:=none) (kn_ HK)));replace HO5:=am_ (Kd.R_mono (Kd.R_told (Kd.R_oldK (IsS105.apart (show IsS105 w0 _ g s0_0 t24 t25 from in105_ HI0) (kr_ HO5.out) (by decide)) hk) (Kd.R_base ho0)) (fun _ h_=>h_.1));replace HO19:=am_ (Kd.R_mono (Kd.R_told (Kd.R_oldK (IsS105.apart (show IsS105 w0 _ g s0_0 t24 t25 from in105_ HI0) (kr_ HO19.out) (by decide)) hk) (Kd.R_base ho0)) (fun _ h_=>h_.1));have HO45:=am_ (Kd.R_lower (Kd.R_new' ho1 (lt_ HO10)) (keep_size (w:=w) (g:=g) (row:=none) (kn_ HK)));replace HO10:=am_ (Kd.R_mono (Kd.R_told (Kd.R_oldK (IsS105.apart (show IsS105 w0 _ g s0_0 t24 t25 from in105_ HI0) (kr_ HO10.out) (by decide)) hk) (Kd.R_base ho1)) (fun _ h_=>h_.1));replace HK:=ktr_ HK hk;replace HB:=am_ hb;replace HI0:=am_ hi;clear hb hk hi ho0 ho1;obtain ⟨Ao51,co51,eo51⟩:=Kd.R_slice HO40.out;subst eo51;have hcz52:=cz8_ BK22;obtain ⟨Ao53,co53,eo53⟩:=Kd.R_slice HO45.out;subst eo53;have hnb54:=NB1_0.out;have hnc54:=NB0_1.out;have hcz55:=cz8_ BK1))
    refine bodyPost_ret (rctt_ gb1 43 #[.int .i64 t602,.slice Ao51 t38.length co51,.int .i64 t41,.string t42,.slice Ao53 t43.length co53,.int .i64 t46,.int .i64 t12,.string t13] BK1 Tryz.underlying43) rfl ?_
    exact ⟨_,_,_,_,e2_,kr_ (Kd.R_mono (Kd.R_far (p:=⟨gb1,7,none⟩) (Kd.R_far (p:=⟨gb1,6,none⟩) (Kd.R_far (p:=⟨gb1,5,none⟩) (Kd.R_far (p:=⟨gb1,4,none⟩) (Kd.R_far (p:=⟨gb1,3,none⟩) (Kd.R_far (p:=⟨gb1,2,none⟩) (Kd.R_far (p:=⟨gb1,1,none⟩) (Kd.R_far (p:=⟨gb1,0,none⟩) (Kd.R_far (p:=⟨gb22,5,none⟩) (Kd.R_far (p:=⟨gb22,4,none⟩) (Kd.R_far (p:=⟨gb22,3,none⟩) (Kd.R_far (p:=⟨gb22,2,none⟩) (Kd.R_far (p:=⟨gb22,1,none⟩) (Kd.R_types (Kd.R_types HO40.out BK22.out (by decide)) BK1.out (by decide)) (fun _ hk=>hk.1.2) (.slice Ao51 t38.length co51)) (fun _ hk=>hk.1.2) (.int .i64 t41)) (fun _ hk=>hk.1.2) (.string t42)) (fun _ hk=>hk.1.2) (.slice Ao53 t43.length co53)) (fun _ hk=>hk.1.2) (.int .i64 t46)) (fun _ hk=>hk.2) (.int .i64 t602)) (fun _ hk=>hk.2) (.slice Ao51 t38.length co51)) (fun _ hk=>hk.2) (.int .i64 t41)) (fun _ hk=>hk.2) (.string t42)) (fun _ hk=>hk.2) (.slice Ao53 t43.length co53)) (fun _ hk=>hk.2) (.int .i64 t46)) (fun _ hk=>hk.2) (.int .i64 t12)) (fun _ hk=>hk.2) (.string t13)) (fun _ hk=>hk.1.1.2)),kfm2_ HO45 BK22 BK1,kfm2_ HO16 BK22 BK1,kr_ (Kd.R_mono (Kd.R_far (p:=⟨gb1,7,none⟩) (Kd.R_far (p:=⟨gb1,6,none⟩) (Kd.R_far (p:=⟨gb1,5,none⟩) (Kd.R_far (p:=⟨gb1,4,none⟩) (Kd.R_far (p:=⟨gb1,3,none⟩) (Kd.R_far (p:=⟨gb1,2,none⟩) (Kd.R_far (p:=⟨gb1,1,none⟩) (Kd.R_far (p:=⟨gb1,0,none⟩) (Kd.R_far (p:=⟨gb22,5,none⟩) (Kd.R_far (p:=⟨gb22,4,none⟩) (Kd.R_far (p:=⟨gb22,3,none⟩) (Kd.R_far (p:=⟨gb22,2,none⟩) (Kd.R_far (p:=⟨gb22,1,none⟩) (Kd.R_types (Kd.R_types HO19.out BK22.out (by decide)) BK1.out (by decide)) (fun _ hk=>hk.1.2) (.slice Ao51 t38.length co51)) (fun _ hk=>hk.1.2) (.int .i64 t41)) (fun _ hk=>hk.1.2) (.string t42)) (fun _ hk=>hk.1.2) (.slice Ao53 t43.length co53)) (fun _ hk=>hk.1.2) (.int .i64 t46)) (fun _ hk=>hk.2) (.int .i64 t602)) (fun _ hk=>hk.2) (.slice Ao51 t38.length co51)) (fun _ hk=>hk.2) (.int .i64 t41)) (fun _ hk=>hk.2) (.string t42)) (fun _ hk=>hk.2) (.slice Ao53 t43.length co53)) (fun _ hk=>hk.2) (.int .i64 t46)) (fun _ hk=>hk.2) (.int .i64 t12)) (fun _ hk=>hk.2) (.string t13)) (fun _ hk=>hk.1.1.2)),in105_ HI0,bi105_ HB,kn_ HK⟩
   ·have c39b0:(t23 == 2)=false:=beq_eq_false_iff_ne.mpr c39
    have c39b1:(t23 != 2)=true:=bne_iff_ne.mpr c39
    simp only [Option.some.injEq,Prod.mk.injEq] at H
    obtain ⟨rfl,rfl,rfl,rfl,rfl,rfl,rfl,rfl,rfl,rfl,rfl,rfl⟩:=H
    have hcz65:=cz8_ BK22;have hnb66:=NB1_0.out;have hnc66:=NB0_1.out;have hcz67:=cz8_ BK1
    try go_wp2
    refine bodyPost_ret (rctt_ gb1 43 #[.int .i64 t602,.slice Ao12 t3.length co12,.int .i64 t6,.string t7,.slice Ao13 t8.length co13,.int .i64 t11,.int .i64 t12,.string t13] BK1 Tryz.underlying43) rfl ?_
    exact ⟨_,_,_,_,e2_,kfm_ HO5 BK1,kfm_ HO10 BK1,kfm_ HO16 BK1,kfm_ HO19 BK1,in105_ HI0,bi105_ HB,kn_ HK⟩
section
attribute [local go_sem high] eqA37
def spec_l14Known.f (k:Nat) (l0:List (S37)) (a1_0:Int) (a1_1:ByteArray):Option (Bool):=(spec_HeadOf.f k (([]:List ByteArray))).bind fun bt5=>(if (a1_0 == bt5.1 && (a1_1.toList == bt5.2.toList))=true then (some true) else ((spec_IsSigned.f k l0 a1_0 a1_1).bind fun t7=>(some t7)))
def spec_l14Known.T1:Bool × List (List Nat × List Nat):=(true,[([],[]),([],[]),([1],[1]),([0,2],[0,2]),([3,2],[3]),([4],[4]),([4],[4]),([5,6,4,4],[4,5,6]),([4,7],[4,7]),([8,7,0,1,2,3,4,5,6,7,8],[8])])
def spec_l14Known.B1:List Nat:=[0,0,2,7,15,31,31,127,255,511]
theorem spec_l14Known.tab1:rtab .any (opsOf Tryz.f75 1)=spec_l14Known.T1:=by kernel_rfl
theorem spec_l14Known.bits1:waitsOk spec_l14Known.T1.2 spec_l14Known.B1=true:=by kernel_rfl
theorem spec_l14Known.calls (k:Nat) (A0:Option Addr) (c0:Nat) (l0:List (S37)) (a1_0:Int) (a1_1:ByteArray) (r:Bool) (w:World) (hr0:Kd.C k37 w A0 l0.length l0) (hc0:l0.length≤c0) (h:spec_l14Known.f k l0 a1_0 a1_1=some r) :
  Calls Tryz.prog 75 #[.slice A0 l0.length c0,.agg #[.int .i64 a1_0,.string a1_1]] w fun e w'=>e = .returned (.bool r)∧Below w.heap.size w w':=by
 have hu37:=Tryz.underlying37
 have HR0:=am_ hr0
 have HC0:=am_ hc0
 clear hr0 hc0
 have HB:=h0_ w
 have H:((spec_HeadOf.f k (([]:List ByteArray))).bind fun bt5=>(if (a1_0 == bt5.1 && (a1_1.toList == bt5.2.toList))=true then (some true) else ((spec_IsSigned.f k l0 a1_0 a1_1).bind fun t7=>(some t7))))=some r:=h
 clear h
 obtain ⟨y602,hy2⟩:∃ y_:List ByteArray,y_=(([]:List ByteArray)):=⟨_,rfl⟩
 replace H:((spec_HeadOf.f k y602).bind fun bt5=>(if (a1_0 == bt5.1 && (a1_1.toList == bt5.2.toList))=true then (some true) else ((spec_IsSigned.f k l0 a1_0 a1_1).bind fun t7=>(some t7))))=some r:=yh_ hy2 H
 have Ny2:=am_ hy2
 clear hy2
 replace H:=bi_ H;obtain ⟨⟨t5,t6⟩,A3,H⟩:=H
 dsimp only at H
 replace H:=it_ H;obtain ⟨c4,H⟩|⟨c4,H⟩:=H
 ·have c4b0:(a1_0 == t5 && (a1_1.toList == t6.toList))=true:=c4
  (try (have c4b1:decide (a1_0=t5 && (a1_1.toList == t6.toList))=true:=by simpa using c4))
  (try (have c4b2:(a1_0 == t5 && (a1_1.toList == t6.toList))=true:=by simpa using c4))
  clear c4
  obtain rfl:=Option.some.inj H
  go_enter Tryz.func75,Tryz.ntmps75
  try go_wp2_with (first|((with_reducible refine gd_ 3 ?_);refine bx_ 3 37 #[.int .i64 a1_0,.string a1_1] (hx_ HB ?_);clear HB;intro gb1 w5 BK1 GW1 HB;have GE1:=GW1))
  replace BK1:=bd_ BK1
  replace HB:=hd_ HB
  refine sw_ 10 (fun w'=>w'.cell? ⟨gb1,0,none⟩=some (.int .i64 a1_0)∧w'.cell? ⟨gb1,1,none⟩=some (.string a1_1)) [] spec_l14Known.tab1 spec_l14Known.bits1 ⟨bc0_ BK1.out,bc1_ BK1.out⟩ (fun hHeld HT_ HW_=>?_)
  generalize w5.drew=w6 at BK1 HB hHeld ⊢
  refine tt_ 0 5 1 ?_
  refine oz_ 1 6 10 3 (fun K hK=>?_)
  refine Kd.R_lit_step Kd.string _ 9 ?hg (N:=6) ?hd (xs:=([]:List ByteArray)) (inner:=[]) (ok:=fun _=>True) (okp:=fun _=>True) ?hr ?hp (fun _ hk=>hk) trivial (Below.refl _ _) (Nat.le_refl _) (by simp) ?_;(case hd=>rfl);(case hg=>rfl);(case hr=>first|(go_simp;done)|(go_simp;rfl));(case hp=>exact (Reps.none _ _))
  intro v3 w7 ho8 hb hg_ hnew_
  clear hg_ hnew_
  (first | rw [← Ny2.out] at ho8|(simp only [Int.reduceToNat] at ho8;rw [← Ny2.out] at ho8))
  have HO4:=rlo_ ho8 HB
  replace BK1:=kl_ BK1 hb
  replace HB:=ss_ HB hb
  clear hb ho8
  obtain ⟨Ao9,co9,eo9⟩:=Kd.R_slice HO4.out
  subst eo9
  refine hK.out _ _ ⟨bc0_ BK1.out,bc1_ BK1.out⟩ (fun hHeld=>?_)
  clear hK K
  refine no_ 6 ?_
  refine oz_ 2 7 10 7 (fun K hK=>?_)
  refine gf_ Tryz.func110 (spec_HeadOf.calls k _ _ y602 t5 t6 _ (ch_ HO4) (cl_ HO4) A3.out) ?_
  rintro e w10 ⟨rfl,hb⟩
  refine ⟨_,rfl,?_⟩
  replace HO4:=rb_ HO4 hb
  replace BK1:=kl_ BK1 hb
  replace HB:=ss_ HB hb
  clear hb
  refine hK.out _ _ ⟨bc0_ BK1.out,bc1_ BK1.out⟩ (fun hHeld=>?_)
  clear hK K
  refine no_ 7 ?_
  refine pt_ 3 8 15 ?_
  refine pt_ 4 9 31 ?_
  refine ut_ 5 10 63 ?_
  refine ut_ 6 11 127 ?_
  refine ut_ 7 12 255 ?_
  refine pt_ 8 13 511 ?_
  refine pt_ 9 4 1023 ?_
  refine dn_ ?_
  try go_wp2
  go_ret
  exact ⟨e2_,bw_ HB⟩
 ·have c4b0:(a1_0 == t5 && (a1_1.toList == t6.toList))=false:=by simpa using c4
  (try (have c4b1:decide (a1_0=t5 && (a1_1.toList == t6.toList))=false:=by simpa using c4))
  (try (have c4b2:(a1_0 == t5 && (a1_1.toList == t6.toList))=false:=by simpa using c4))
  (try (have c4b3:¬ (a1_0=t5 && (a1_1.toList == t6.toList)):=by simpa using c4))
  clear c4
  replace H:=bi_ H;obtain ⟨t7,A11,H⟩:=H
  obtain rfl:=Option.some.inj H
  go_enter Tryz.func75,Tryz.ntmps75
  try go_wp2_with (first|((with_reducible refine gd_ 3 ?_);refine bx_ 3 37 #[.int .i64 a1_0,.string a1_1] (hx_ HB ?_);clear HB;intro gb1 w12 BK1 GW1 HB;have GE1:=GW1))
  replace BK1:=bd_ BK1
  replace HB:=hd_ HB
  refine sw_ 10 (fun w'=>w'.cell? ⟨gb1,0,none⟩=some (.int .i64 a1_0)∧w'.cell? ⟨gb1,1,none⟩=some (.string a1_1)) [] spec_l14Known.tab1 spec_l14Known.bits1 ⟨bc0_ BK1.out,bc1_ BK1.out⟩ (fun hHeld HT_ HW_=>?_)
  generalize w12.drew=w13 at BK1 HB hHeld ⊢
  refine tt_ 0 5 1 ?_
  refine oz_ 1 6 10 3 (fun K hK=>?_)
  refine Kd.R_lit_step Kd.string _ 9 ?hg (N:=6) ?hd (xs:=([]:List ByteArray)) (inner:=[]) (ok:=fun _=>True) (okp:=fun _=>True) ?hr ?hp (fun _ hk=>hk) trivial (Below.refl _ _) (Nat.le_refl _) (by simp) ?_;(case hd=>rfl);(case hg=>rfl);(case hr=>first|(go_simp;done)|(go_simp;rfl));(case hp=>exact (Reps.none _ _))
  intro v3 w14 ho15 hb hg_ hnew_
  clear hg_ hnew_
  (first | rw [← Ny2.out] at ho15|(simp only [Int.reduceToNat] at ho15;rw [← Ny2.out] at ho15))
  have HO4:=rlo_ ho15 HB
  replace BK1:=kl_ BK1 hb
  replace HB:=ss_ HB hb
  clear hb ho15
  obtain ⟨Ao16,co16,eo16⟩:=Kd.R_slice HO4.out
  subst eo16
  refine hK.out _ _ ⟨bc0_ BK1.out,bc1_ BK1.out⟩ (fun hHeld=>?_)
  clear hK K
  refine no_ 6 ?_
  refine oz_ 2 7 10 7 (fun K hK=>?_)
  refine gf_ Tryz.func110 (spec_HeadOf.calls k _ _ y602 t5 t6 _ (ch_ HO4) (cl_ HO4) A3.out) ?_
  rintro e w17 ⟨rfl,hb⟩
  refine ⟨_,rfl,?_⟩
  replace BK1:=kl_ BK1 hb
  replace HB:=ss_ HB hb
  clear hb
  refine hK.out _ _ ⟨bc0_ BK1.out,bc1_ BK1.out⟩ (fun hHeld=>?_)
  clear hK K
  refine no_ 7 ?_
  refine pt_ 3 8 15 ?_
  refine pt_ 4 9 31 ?_
  refine pt_ 5 10 63 ?_
  refine tt_ 6 11 127 ?_
  refine oz_ 7 12 10 255 (fun K hK=>?_)
  refine gf_ Tryz.func111 (spec_IsSigned.calls k _ _ l0 a1_0 a1_1 t7 _ (cb_ HR0 HB) HC0.out A11.out) ?_
  rintro e w18 ⟨rfl,hb⟩
  refine ⟨_,rfl,?_⟩
  replace BK1:=kl_ BK1 hb
  replace HB:=ss_ HB hb
  clear hb
  refine hK.out _ _ ⟨bc0_ BK1.out,bc1_ BK1.out⟩ (fun hHeld=>?_)
  clear hK K
  refine no_ 12 ?_
  refine pt_ 8 13 511 ?_
  refine pt_ 9 4 1023 ?_
  refine dn_ ?_
  try go_wp2
  go_ret
  exact ⟨e2_,bw_ HB⟩
end
def spec_MirrorOk.f (k:Nat) (a0_0:Int) (l0_1:List ByteArray) (a0_2:Int) (a0_3:ByteArray) (l0_4:List Int) (a0_5:Int) (a0_6:Int) (a0_7:ByteArray) (l1:List (S37)):Option (Bool):=(spec_l1In.f a0_0 0 20).bind fun t602=>(if t602=true then ((spec_StoreOk.f k l0_1 a0_2 a0_3 l0_4 a0_5).bind fun t3=>(if t3=true then ((spec_HeadOk.f a0_6 a0_7).bind fun t4=>(if t4=true then ((spec_l14Known.f k l1 a0_6 a0_7).bind fun t5=>(if t5=true then ((spec_l14Known.f k l1 a0_2 a0_3).bind fun t6=>(some t6)) else (some false))) else (some false))) else (some false))) else (some false))
theorem spec_MirrorOk.calls (k:Nat) (a0_0:Int) (A0_1:Option Addr) (c0_1:Nat) (l0_1:List ByteArray) (a0_2:Int) (a0_3:ByteArray) (A0_4:Option Addr) (c0_4:Nat) (l0_4:List Int) (a0_5:Int) (a0_6:Int) (a0_7:ByteArray) (A1:Option Addr) (c1:Nat) (l1:List (S37)) (r:Bool) (w:World) (hr0_1:Kd.C Kd.string w A0_1 l0_1.length l0_1) (hc0_1:l0_1.length≤c0_1) (hr0_4:Kd.C (Kd.int .u8) w A0_4 l0_4.length l0_4) (hc0_4:l0_4.length≤c0_4) (hr1:Kd.C k37 w A1 l1.length l1) (hc1:l1.length≤c1) (h:spec_MirrorOk.f k a0_0 l0_1 a0_2 a0_3 l0_4 a0_5 a0_6 a0_7 l1=some r) :
  Calls Tryz.prog 39 #[.agg #[.int .i64 a0_0,.slice A0_1 l0_1.length c0_1,.int .i64 a0_2,.string a0_3,.slice A0_4 l0_4.length c0_4,.int .i64 a0_5,.int .i64 a0_6,.string a0_7],.slice A1 l1.length c1] w fun e w'=>e = .returned (.bool r)∧Below w.heap.size w w':=by
 have hu43:=Tryz.underlying43
 have hu41:=Tryz.underlying41
 have hu37:=Tryz.underlying37
 have HR0_1:=am_ hr0_1
 have HC0_1:=am_ hc0_1
 clear hr0_1 hc0_1
 have HR0_4:=am_ hr0_4
 have HC0_4:=am_ hc0_4
 clear hr0_4 hc0_4
 have HR1:=am_ hr1
 have HC1:=am_ hc1
 clear hr1 hc1
 have HB:=h0_ w
 have H:((spec_l1In.f a0_0 0 20).bind fun t602=>(if t602=true then ((spec_StoreOk.f k l0_1 a0_2 a0_3 l0_4 a0_5).bind fun t3=>(if t3=true then ((spec_HeadOk.f a0_6 a0_7).bind fun t4=>(if t4=true then ((spec_l14Known.f k l1 a0_6 a0_7).bind fun t5=>(if t5=true then ((spec_l14Known.f k l1 a0_2 a0_3).bind fun t6=>(some t6)) else (some false))) else (some false))) else (some false))) else (some false)))=some r:=h
 clear h
 replace H:=bi_ H;obtain ⟨t602,A3,H⟩:=H
 replace H:=itb_ H;obtain ⟨rfl,H⟩|⟨rfl,H⟩:=H
 ·replace H:=bi_ H;obtain ⟨t3,A5,H⟩:=H
  replace H:=itb_ H;obtain ⟨rfl,H⟩|⟨rfl,H⟩:=H
  ·replace H:=bi_ H;obtain ⟨t4,A7,H⟩:=H
   replace H:=itb_ H;obtain ⟨rfl,H⟩|⟨rfl,H⟩:=H
   ·replace H:=bi_ H;obtain ⟨t5,A9,H⟩:=H
    replace H:=itb_ H;obtain ⟨rfl,H⟩|⟨rfl,H⟩:=H
    ·replace H:=bi_ H;obtain ⟨t6,A11,H⟩:=H
     obtain rfl:=Option.some.inj H
     go_enter Tryz.func39,Tryz.ntmps39
     go_wp2_with (first|((with_reducible refine gd_ 2 ?_);refine bx_ 2 43 #[.int .i64 a0_0,.slice A0_1 l0_1.length c0_1,.int .i64 a0_2,.string a0_3,.slice A0_4 l0_4.length c0_4,.int .i64 a0_5,.int .i64 a0_6,.string a0_7] (hx_ HB ?_);clear HB;intro gb1 w12 BK1 GW1 HB;have GE1:=GW1;have hcz13:=cz8_ BK1)|((with_reducible refine gq_ 72 7 ?_);refine gc_ 7 Tryz.func72 (spec_l1In.calls a0_0 0 20 true _ A3.out) ?_;rintro e w' ⟨rfl,⟨nd,rfl⟩⟩;refine ⟨_,rfl,?_⟩)|(go_at_call 73;(with_reducible refine (spec_StoreOk.calls k _ _ l0_1 a0_2 a0_3 _ _ l0_4 a0_5 true _ ?side1 ?side2 ?side3 ?side4 A5.out).mono ?_);(case side1=>exact cr_ (Kd.C_below HR0_1.out (bw_ HB)));(case side2=>exact HC0_1.out);(case side3=>exact cr_ (Kd.C_below HR0_4.out (bw_ HB)));(case side4=>exact HC0_4.out);rintro e w14 ⟨rfl,hb⟩;replace BK1:=kl_ BK1 hb;replace HB:=ss_ HB hb;clear hb;have hcz15:=cz8_ BK1)|(go_at_call 74;(with_reducible refine (spec_HeadOk.calls a0_6 a0_7 true _ A7.out).mono ?_);rintro e w16 ⟨rfl,hb⟩;replace BK1:=kl_ BK1 hb;replace HB:=ss_ HB hb;clear hb;have hcz17:=cz8_ BK1)|(go_at_call 75;(with_reducible refine (spec_l14Known.calls k _ _ l1 a0_6 a0_7 true _ ?side1 ?side2 A9.out).mono ?_);(case side1=>exact cb_ HR1 HB);(case side2=>exact HC1.out);rintro e w18 ⟨rfl,hb⟩;replace BK1:=kl_ BK1 hb;replace HB:=ss_ HB hb;clear hb;have hcz19:=cz8_ BK1)|(go_at_call 75;(with_reducible refine (spec_l14Known.calls k _ _ l1 a0_2 a0_3 t6 _ ?side1 ?side2 A11.out).mono ?_);(case side1=>exact cb_ HR1 HB);(case side2=>exact HC1.out);rintro e w20 ⟨rfl,hb⟩;replace BK1:=kl_ BK1 hb;replace HB:=ss_ HB hb;clear hb))
     go_ret
     exact ⟨e2_,bw_ HB⟩
    ·obtain rfl:=Option.some.inj H
     go_enter Tryz.func39,Tryz.ntmps39
     go_wp2_with (first|((with_reducible refine gd_ 2 ?_);refine bx_ 2 43 #[.int .i64 a0_0,.slice A0_1 l0_1.length c0_1,.int .i64 a0_2,.string a0_3,.slice A0_4 l0_4.length c0_4,.int .i64 a0_5,.int .i64 a0_6,.string a0_7] (hx_ HB ?_);clear HB;intro gb1 w21 BK1 GW1 HB;have GE1:=GW1;have hcz22:=cz8_ BK1)|((with_reducible refine gq_ 72 7 ?_);refine gc_ 7 Tryz.func72 (spec_l1In.calls a0_0 0 20 true _ A3.out) ?_;rintro e w' ⟨rfl,⟨nd,rfl⟩⟩;refine ⟨_,rfl,?_⟩)|(go_at_call 73;(with_reducible refine (spec_StoreOk.calls k _ _ l0_1 a0_2 a0_3 _ _ l0_4 a0_5 true _ ?side1 ?side2 ?side3 ?side4 A5.out).mono ?_);(case side1=>exact cr_ (Kd.C_below HR0_1.out (bw_ HB)));(case side2=>exact HC0_1.out);(case side3=>exact cr_ (Kd.C_below HR0_4.out (bw_ HB)));(case side4=>exact HC0_4.out);rintro e w23 ⟨rfl,hb⟩;replace BK1:=kl_ BK1 hb;replace HB:=ss_ HB hb;clear hb;have hcz24:=cz8_ BK1)|(go_at_call 74;(with_reducible refine (spec_HeadOk.calls a0_6 a0_7 true _ A7.out).mono ?_);rintro e w25 ⟨rfl,hb⟩;replace BK1:=kl_ BK1 hb;replace HB:=ss_ HB hb;clear hb;have hcz26:=cz8_ BK1)|(go_at_call 75;(with_reducible refine (spec_l14Known.calls k _ _ l1 a0_6 a0_7 false _ ?side1 ?side2 A9.out).mono ?_);(case side1=>exact cb_ HR1 HB);(case side2=>exact HC1.out);rintro e w27 ⟨rfl,hb⟩;replace BK1:=kl_ BK1 hb;replace HB:=ss_ HB hb;clear hb))
     go_ret
     exact ⟨e2_,bw_ HB⟩
   ·obtain rfl:=Option.some.inj H
    go_enter Tryz.func39,Tryz.ntmps39
    go_wp2_with (first|((with_reducible refine gd_ 2 ?_);refine bx_ 2 43 #[.int .i64 a0_0,.slice A0_1 l0_1.length c0_1,.int .i64 a0_2,.string a0_3,.slice A0_4 l0_4.length c0_4,.int .i64 a0_5,.int .i64 a0_6,.string a0_7] (hx_ HB ?_);clear HB;intro gb1 w28 BK1 GW1 HB;have GE1:=GW1;have hcz29:=cz8_ BK1)|((with_reducible refine gq_ 72 7 ?_);refine gc_ 7 Tryz.func72 (spec_l1In.calls a0_0 0 20 true _ A3.out) ?_;rintro e w' ⟨rfl,⟨nd,rfl⟩⟩;refine ⟨_,rfl,?_⟩)|(go_at_call 73;(with_reducible refine (spec_StoreOk.calls k _ _ l0_1 a0_2 a0_3 _ _ l0_4 a0_5 true _ ?side1 ?side2 ?side3 ?side4 A5.out).mono ?_);(case side1=>exact cr_ (Kd.C_below HR0_1.out (bw_ HB)));(case side2=>exact HC0_1.out);(case side3=>exact cr_ (Kd.C_below HR0_4.out (bw_ HB)));(case side4=>exact HC0_4.out);rintro e w30 ⟨rfl,hb⟩;replace BK1:=kl_ BK1 hb;replace HB:=ss_ HB hb;clear hb;have hcz31:=cz8_ BK1)|(go_at_call 74;(with_reducible refine (spec_HeadOk.calls a0_6 a0_7 false _ A7.out).mono ?_);rintro e w32 ⟨rfl,hb⟩;replace BK1:=kl_ BK1 hb;replace HB:=ss_ HB hb;clear hb))
    go_ret
    exact ⟨e2_,bw_ HB⟩
  ·obtain rfl:=Option.some.inj H
   go_enter Tryz.func39,Tryz.ntmps39
   go_wp2_with (first|((with_reducible refine gd_ 2 ?_);refine bx_ 2 43 #[.int .i64 a0_0,.slice A0_1 l0_1.length c0_1,.int .i64 a0_2,.string a0_3,.slice A0_4 l0_4.length c0_4,.int .i64 a0_5,.int .i64 a0_6,.string a0_7] (hx_ HB ?_);clear HB;intro gb1 w33 BK1 GW1 HB;have GE1:=GW1;have hcz34:=cz8_ BK1)|((with_reducible refine gq_ 72 7 ?_);refine gc_ 7 Tryz.func72 (spec_l1In.calls a0_0 0 20 true _ A3.out) ?_;rintro e w' ⟨rfl,⟨nd,rfl⟩⟩;refine ⟨_,rfl,?_⟩)|(go_at_call 73;(with_reducible refine (spec_StoreOk.calls k _ _ l0_1 a0_2 a0_3 _ _ l0_4 a0_5 false _ ?side1 ?side2 ?side3 ?side4 A5.out).mono ?_);(case side1=>exact cr_ (Kd.C_below HR0_1.out (bw_ HB)));(case side2=>exact HC0_1.out);(case side3=>exact cr_ (Kd.C_below HR0_4.out (bw_ HB)));(case side4=>exact HC0_4.out);rintro e w35 ⟨rfl,hb⟩;replace BK1:=kl_ BK1 hb;replace HB:=ss_ HB hb;clear hb))
   go_ret
   exact ⟨e2_,bw_ HB⟩
 ·obtain rfl:=Option.some.inj H
  go_enter Tryz.func39,Tryz.ntmps39
  go_wp2_with (first|((with_reducible refine gd_ 2 ?_);refine bx_ 2 43 #[.int .i64 a0_0,.slice A0_1 l0_1.length c0_1,.int .i64 a0_2,.string a0_3,.slice A0_4 l0_4.length c0_4,.int .i64 a0_5,.int .i64 a0_6,.string a0_7] (hx_ HB ?_);clear HB;intro gb1 w36 BK1 GW1 HB;have GE1:=GW1;have hcz37:=cz8_ BK1)|((with_reducible refine gq_ 72 7 ?_);refine gc_ 7 Tryz.func72 (spec_l1In.calls a0_0 0 20 false _ A3.out) ?_;rintro e w' ⟨rfl,⟨nd,rfl⟩⟩;refine ⟨_,rfl,?_⟩))
  go_ret
  exact ⟨e2_,bw_ HB⟩
def impl_isId.f (a0:Int):Option (Bool):=(impl_inRange.f a0 0 20).bind fun t1=>(some t1)
theorem impl_isId.calls (a0:Int) (r:Bool) (w:World) (h:impl_isId.f a0=some r) :
  Calls Tryz.prog 59 #[.int .i64 a0] w fun e w'=>e = .returned (.bool r)∧Drawn0 w w':=by
 have H:((impl_inRange.f a0 0 20).bind fun t1=>(some t1))=some r:=h
 clear h
 replace H:=bi_ H;obtain ⟨t1,A2,H⟩:=H
 obtain rfl:=Option.some.inj H
 go_enter Tryz.func59,Tryz.ntmps59
 go_wp2_with (first|((with_reducible refine gq_ 63 4 ?_);refine gc_ 4 Tryz.func63 (impl_inRange.calls a0 0 20 t1 _ A2.out) ?_;rintro e w' ⟨rfl,⟨nd,rfl⟩⟩;refine ⟨_,rfl,?_⟩))
 go_ret
 exact ⟨e1_,dw_⟩
def impl_copyMirror.f (a0_0:Int) (l0_1:List ByteArray) (a0_2:Int) (a0_3:ByteArray) (l0_4:List Int) (a0_5:Int) (a0_6:Int) (a0_7:ByteArray):Option (Int × List ByteArray × Int × ByteArray × List Int × Int × Int × ByteArray):=(impl_copyStore.f l0_1 a0_2 a0_3 l0_4 a0_5).bind fun bt3=>(some (a0_0,bt3.1,bt3.2.1,bt3.2.2.1,bt3.2.2.2.1,bt3.2.2.2.2,a0_6,a0_7))
theorem impl_copyMirror.calls (a0_0:Int) (A0_1:Option Addr) (c0_1:Nat) (l0_1:List ByteArray) (a0_2:Int) (a0_3:ByteArray) (A0_4:Option Addr) (c0_4:Nat) (l0_4:List Int) (a0_5:Int) (a0_6:Int) (a0_7:ByteArray) (r1:Int) (r2:List ByteArray) (r3:Int) (r4:ByteArray) (r5:List Int) (r6:Int) (r7:Int) (r8:ByteArray) (w:World) (hr0_1:Kd.C Kd.string w A0_1 l0_1.length l0_1) (hc0_1:l0_1.length≤c0_1) (hr0_4:Kd.C (Kd.int .u8) w A0_4 l0_4.length l0_4) (hc0_4:l0_4.length≤c0_4) (h:impl_copyMirror.f a0_0 l0_1 a0_2 a0_3 l0_4 a0_5 a0_6 a0_7=some (r1,r2,r3,r4,r5,r6,r7,r8)) :
  Calls Tryz.prog 54 #[.agg #[.int .i64 a0_0,.slice A0_1 l0_1.length c0_1,.int .i64 a0_2,.string a0_3,.slice A0_4 l0_4.length c0_4,.int .i64 a0_5,.int .i64 a0_6,.string a0_7]] w fun e w'=>∃ v1_ v4_:Value,e = .returned (.agg #[.int .i64 r1,v1_,.int .i64 r3,.string r4,v4_,.int .i64 r6,.int .i64 r7,.string r8])∧Kd.R Kd.string 9 w' w.heap.size (fun _=>True) v1_ r2∧Kd.R (Kd.int .u8) 5 w' w.heap.size (fun _=>True) v4_ r5∧Below w.heap.size w w':=by
 have hu43:=Tryz.underlying43
 have hu41:=Tryz.underlying41
 have HR0_1:=am_ hr0_1
 have HC0_1:=am_ hc0_1
 clear hr0_1 hc0_1
 have HR0_4:=am_ hr0_4
 have HC0_4:=am_ hc0_4
 clear hr0_4 hc0_4
 have HB:=h0_ w
 have H:((impl_copyStore.f l0_1 a0_2 a0_3 l0_4 a0_5).bind fun bt3=>(some (a0_0,bt3.1,bt3.2.1,bt3.2.2.1,bt3.2.2.2.1,bt3.2.2.2.2,a0_6,a0_7)))=some (r1,r2,r3,r4,r5,r6,r7,r8):=h
 clear h
 replace H:=bi_ H;obtain ⟨⟨t3,t6,t7,t8,t11⟩,A2,H⟩:=H
 dsimp only at H
 replace H:=so8_ H;obtain ⟨rfl,rfl,rfl,rfl,rfl,rfl,rfl,rfl⟩:=H
 go_enter Tryz.func54,Tryz.ntmps54
 go_wp2_with (first|((with_reducible refine gd_ 1 ?_);refine bx_ 1 43 #[.int .i64 a0_0,.slice A0_1 l0_1.length c0_1,.int .i64 a0_2,.string a0_3,.slice A0_4 l0_4.length c0_4,.int .i64 a0_5,.int .i64 a0_6,.string a0_7] (hx_ HB ?_);clear HB;intro gb1 w3 BK1 GW1 HB;have GE1:=GW1)|((with_reducible refine gd_ 2 ?_);refine x43_ 2 ?_;intro gb2 hg w4 hbox hb;have BK2:=am_ hbox;have GW2:=gg_ hg HB;have GE2:=GW2;replace HB:=ss_ HB hb;have NB1_2:=nla_ hg BK1;have NB2_1:=nga_ hg BK1;replace BK1:=kl_ BK1 hb;clear hb hbox hg;have hnb5:=NB1_2.out;have hnc5:=NB2_1.out;have hcz6:=cz8_ BK1)|((with_reducible refine gq_ 90 5 ?_);refine gc_ 5 Tryz.func90 (impl_copyStore.calls _ _ l0_1 a0_2 a0_3 _ _ l0_4 a0_5 t3 t6 t7 t8 t11 _ (cb_ HR0_1 HB) HC0_1.out (cb_ HR0_4 HB) HC0_4.out A2.out) ?_;rintro e w7 ⟨v4,v9,rfl,ho0,ho1,hb⟩;refine ⟨_,rfl,?_⟩;have HO5:=rlo_ ho0 HB;have HO10:=rlo_ ho1 HB;replace BK1:=kl_ BK1 hb;replace BK2:=kl_ BK2 hb;replace HB:=ss_ HB hb;clear hb ho0 ho1;obtain ⟨Ao8,co8,eo8⟩:=Kd.R_slice HO5.out;subst eo8;have hcz9:=cz8_ BK1;obtain ⟨Ao10,co10,eo10⟩:=Kd.R_slice HO10.out;subst eo10;have hcz11:=cz8_ BK2))
 refine bodyPost_ret (rcr_ gb2 43 #[.int .i64 a0_0,.slice Ao8 t3.length co8,.int .i64 t6,.string t7,.slice Ao10 t8.length co10,.int .i64 t11,.int .i64 a0_6,.string a0_7] BK2 Tryz.underlying43) rfl ?_
 exact ⟨_,_,e2_,kfm2_ HO5 BK1 BK2,kfm2_ HO10 BK1 BK2,bw_ HB⟩
def spec_l14Copy.f (a0_0:Int) (l0_1:List ByteArray) (a0_2:Int) (a0_3:ByteArray) (l0_4:List Int) (a0_5:Int) (a0_6:Int) (a0_7:ByteArray):Option (Int × List ByteArray × Int × ByteArray × List Int × Int × Int × ByteArray):=(spec_l12Copy.f l0_1 a0_2 a0_3 l0_4 a0_5).bind fun bt3=>(some (a0_0,bt3.1,bt3.2.1,bt3.2.2.1,bt3.2.2.2.1,bt3.2.2.2.2,a0_6,a0_7))
def spec_l14Copy.T1:Bool × List (List Nat × List Nat):=(true,[([],[]),([0],[0]),([],[]),([2],[2]),([3],[3]),([],[]),([5],[5]),([1,4,6],[1,4,6]),([7,4,0,1,2,3,4,5,6,7],[7])])
def spec_l14Copy.B1:List Nat:=[0,1,0,4,12,0,32,127,255]
theorem spec_l14Copy.tab1:rtab .any (opsOf Tryz.f56 1)=spec_l14Copy.T1:=by kernel_rfl
theorem spec_l14Copy.bits1:waitsOk spec_l14Copy.T1.2 spec_l14Copy.B1=true:=by kernel_rfl
theorem spec_l14Copy.calls (a0_0:Int) (A0_1:Option Addr) (c0_1:Nat) (l0_1:List ByteArray) (a0_2:Int) (a0_3:ByteArray) (A0_4:Option Addr) (c0_4:Nat) (l0_4:List Int) (a0_5:Int) (a0_6:Int) (a0_7:ByteArray) (r1:Int) (r2:List ByteArray) (r3:Int) (r4:ByteArray) (r5:List Int) (r6:Int) (r7:Int) (r8:ByteArray) (w:World) (hr0_1:Kd.C Kd.string w A0_1 l0_1.length l0_1) (hc0_1:l0_1.length≤c0_1) (hr0_4:Kd.C (Kd.int .u8) w A0_4 l0_4.length l0_4) (hc0_4:l0_4.length≤c0_4) (h:spec_l14Copy.f a0_0 l0_1 a0_2 a0_3 l0_4 a0_5 a0_6 a0_7=some (r1,r2,r3,r4,r5,r6,r7,r8)) :
  Calls Tryz.prog 56 #[.agg #[.int .i64 a0_0,.slice A0_1 l0_1.length c0_1,.int .i64 a0_2,.string a0_3,.slice A0_4 l0_4.length c0_4,.int .i64 a0_5,.int .i64 a0_6,.string a0_7]] w fun e w'=>∃ v1_ v4_:Value,e = .returned (.agg #[.int .i64 r1,v1_,.int .i64 r3,.string r4,v4_,.int .i64 r6,.int .i64 r7,.string r8])∧Kd.R Kd.string 9 w' w.heap.size (fun _=>True) v1_ r2∧Kd.R (Kd.int .u8) 5 w' w.heap.size (fun _=>True) v4_ r5∧Below w.heap.size w w':=by
 have hu43:=Tryz.underlying43
 have hu41:=Tryz.underlying41
 have hu37:=Tryz.underlying37
 have HR0_1:=am_ hr0_1
 have HC0_1:=am_ hc0_1
 clear hr0_1 hc0_1
 have HR0_4:=am_ hr0_4
 have HC0_4:=am_ hc0_4
 clear hr0_4 hc0_4
 have HB:=h0_ w
 have H:((spec_l12Copy.f l0_1 a0_2 a0_3 l0_4 a0_5).bind fun bt3=>(some (a0_0,bt3.1,bt3.2.1,bt3.2.2.1,bt3.2.2.2.1,bt3.2.2.2.2,a0_6,a0_7)))=some (r1,r2,r3,r4,r5,r6,r7,r8):=h
 clear h
 replace H:=bi_ H;obtain ⟨⟨t3,t6,t7,t8,t11⟩,A2,H⟩:=H
 dsimp only at H
 replace H:=so8_ H;obtain ⟨rfl,rfl,rfl,rfl,rfl,rfl,rfl,rfl⟩:=H
 go_enter Tryz.func56,Tryz.ntmps56
 try go_wp2_with (first|((with_reducible refine gd_ 1 ?_);refine bx_ 1 43 #[.int .i64 a0_0,.slice A0_1 l0_1.length c0_1,.int .i64 a0_2,.string a0_3,.slice A0_4 l0_4.length c0_4,.int .i64 a0_5,.int .i64 a0_6,.string a0_7] (hx_ HB ?_);clear HB;intro gb1 w3 BK1 GW1 HB;have GE1:=GW1)|((with_reducible refine gd_ 2 ?_);refine x43_ 2 ?_;intro gb2 hg w4 hbox hb;have BK2:=am_ hbox;have GW2:=gg_ hg HB;have GE2:=GW2;replace HB:=ss_ HB hb;have NB1_2:=nla_ hg BK1;have NB2_1:=nga_ hg BK1;replace BK1:=kl_ BK1 hb;clear hb hbox hg))
 replace BK1:=bd_ BK1
 replace BK2:=bd_ BK2
 replace HB:=hd_ HB
 refine sw_ 9 (fun w'=>w'.cell? ⟨gb1,0,none⟩=some (.int .i64 a0_0)∧w'.cell? ⟨gb1,1,none⟩=some (.slice A0_1 l0_1.length c0_1)∧w'.cell? ⟨gb1,2,none⟩=some (.int .i64 a0_2)∧w'.cell? ⟨gb1,3,none⟩=some (.string a0_3)∧w'.cell? ⟨gb1,4,none⟩=some (.slice A0_4 l0_4.length c0_4)∧w'.cell? ⟨gb1,5,none⟩=some (.int .i64 a0_5)∧w'.cell? ⟨gb1,6,none⟩=some (.int .i64 a0_6)∧w'.cell? ⟨gb1,7,none⟩=some (.string a0_7)) [] spec_l14Copy.tab1 spec_l14Copy.bits1 ⟨bc0_ BK1.out,bc1_ BK1.out,bc2_ BK1.out,bc3_ BK1.out,bc4_ BK1.out,bc5_ BK1.out,bc6_ BK1.out,bc7_ BK1.out⟩ (fun hHeld HT_ HW_=>?_)
 generalize w4.drew=w5 at BK1 BK2 HB hHeld ⊢
 refine pt_ 0 3 1 ?_
 refine pt_ 2 5 5 ?_
 refine pt_ 5 8 37 ?_
 refine tt_ 1 4 39 ?_
 refine tt_ 3 6 47 ?_
 refine tt_ 6 9 111 ?_
 refine oz_ 4 7 9 127 (fun K hK=>?_)
 refine gf_ Tryz.func93 (spec_l12Copy.calls _ _ l0_1 a0_2 a0_3 _ _ l0_4 a0_5 t3 t6 t7 t8 t11 _ (cb_ HR0_1 HB) HC0_1.out (cb_ HR0_4 HB) HC0_4.out A2.out) ?_
 rintro e w6 ⟨v4,v9,rfl,ho0,ho1,hb⟩
 refine ⟨_,rfl,?_⟩
 have HO5:=rlo_ ho0 HB
 have HO10:=rlo_ ho1 HB
 replace BK1:=kl_ BK1 hb
 replace BK2:=kl_ BK2 hb
 replace HB:=ss_ HB hb
 clear hb ho0 ho1
 obtain ⟨Ao7,co7,eo7⟩:=Kd.R_slice HO10.out
 subst eo7
 obtain ⟨Ao8,co8,eo8⟩:=Kd.R_slice HO5.out
 subst eo8
 refine hK.out _ _ ⟨bc0_ BK1.out,bc1_ BK1.out,bc2_ BK1.out,bc3_ BK1.out,bc4_ BK1.out,bc5_ BK1.out,bc6_ BK1.out,bc7_ BK1.out⟩ (fun hHeld=>?_)
 clear hK K
 refine no_ 7 ?_
 refine pt_ 7 10 255 ?_
 refine one_ (i:=8) (N:=none) (lz_ 9 511) rfl rfl (one_of HT_.out (by kernel_rfl)) (by decide) (fun K hK=>?_)
 have hs9:=bc0_ BK2.out
 have hfs9:=blk_frozen BK2.out 0
 have hns9_0:=NB1_2.out
 have hms9_0:=NB2_1.out
 have hs10:=bc1_ BK2.out
 have hfs10:=blk_frozen BK2.out 1
 have hns10_0:=NB1_2.out
 have hms10_0:=NB2_1.out
 have hs11:=bc2_ BK2.out
 have hfs11:=blk_frozen BK2.out 2
 have hns11_0:=NB1_2.out
 have hms11_0:=NB2_1.out
 have hs12:=bc3_ BK2.out
 have hfs12:=blk_frozen BK2.out 3
 have hns12_0:=NB1_2.out
 have hms12_0:=NB2_1.out
 have hs13:=bc4_ BK2.out
 have hfs13:=blk_frozen BK2.out 4
 have hns13_0:=NB1_2.out
 have hms13_0:=NB2_1.out
 have hs14:=bc5_ BK2.out
 have hfs14:=blk_frozen BK2.out 5
 have hns14_0:=NB1_2.out
 have hms14_0:=NB2_1.out
 have hs15:=bc6_ BK2.out
 have hfs15:=blk_frozen BK2.out 6
 have hns15_0:=NB1_2.out
 have hms15_0:=NB2_1.out
 have hs16:=bc7_ BK2.out
 have hfs16:=blk_frozen BK2.out 7
 have hns16_0:=NB1_2.out
 have hms16_0:=NB2_1.out
 refine skip_ (w1:=?_) (by rfl) rfl ?_ ?_
 rotate_left
 ·go_simp
  rfl
 refine hK.out _ _ ⟨(cf_ NB1_2 hHeld.1),(cf_ NB1_2 hHeld.2.1),(cf_ NB1_2 hHeld.2.2.1),(cf_ NB1_2 hHeld.2.2.2.1),(cf_ NB1_2 hHeld.2.2.2.2.1),(cf_ NB1_2 hHeld.2.2.2.2.2.1),(cf_ NB1_2 hHeld.2.2.2.2.2.2.1),(cf_ NB1_2 hHeld.2.2.2.2.2.2.2)⟩ (fun hHeld=>?_)
 clear hK K
 refine dn_ ?_
 try go_wp2
 refine bodyPost_ret (rcr_ gb2 43 #[.int .i64 a0_0,.slice Ao8 t3.length co8,.int .i64 t6,.string t7,.slice Ao7 t8.length co7,.int .i64 t11,.int .i64 a0_6,.string a0_7] BK2 Tryz.underlying43) rfl ?_
 exact ⟨_,_,e2_,kfm_ HO5 BK2,kfm_ HO10 BK2,bw_ HB⟩
section
variable {α:Type} {d:Kd α} {e base:Nat} {ok:Nat->Prop} {w W:World} {v:Value} {xs:List α}
theorem rfa_ {g1 g2 i:Nat} {u:Value} (h:d.R e w base (fun k=>(ok k∧k ≠ g1)∧k ≠ g2) v xs):d.R e (w.setCell ⟨g2,i,none⟩ u) base (fun k=>(ok k∧k ≠ g1)∧k ≠ g2) v xs:=Kd.R_far h (fun _ hk=>hk.2) u
theorem rfb_ {g1 g2 i:Nat} {u:Value} (h:d.R e w base (fun k=>(ok k∧k ≠ g1)∧k ≠ g2) v xs):d.R e (w.setCell ⟨g1,i,none⟩ u) base (fun k=>(ok k∧k ≠ g1)∧k ≠ g2) v xs:=Kd.R_far h (fun _ hk=>hk.1.2) u
theorem rga_ {g1 g2 g3 i:Nat} {u:Value} (h:d.R e w base (fun k=>((ok k∧k ≠ g1)∧k ≠ g2)∧k ≠ g3) v xs):d.R e (w.setCell ⟨g3,i,none⟩ u) base (fun k=>((ok k∧k ≠ g1)∧k ≠ g2)∧k ≠ g3) v xs:=Kd.R_far h (fun _ hk=>hk.2) u
theorem rgb_ {g1 g2 g3 i:Nat} {u:Value} (h:d.R e w base (fun k=>((ok k∧k ≠ g1)∧k ≠ g2)∧k ≠ g3) v xs):d.R e (w.setCell ⟨g2,i,none⟩ u) base (fun k=>((ok k∧k ≠ g1)∧k ≠ g2)∧k ≠ g3) v xs:=Kd.R_far h (fun _ hk=>hk.1.2) u
theorem rgc_ {g1 g2 g3 i:Nat} {u:Value} (h:d.R e w base (fun k=>((ok k∧k ≠ g1)∧k ≠ g2)∧k ≠ g3) v xs):d.R e (w.setCell ⟨g1,i,none⟩ u) base (fun k=>((ok k∧k ≠ g1)∧k ≠ g2)∧k ≠ g3) v xs:=Kd.R_far h (fun _ hk=>hk.1.1.2) u
theorem kf2_ {g1 g2 t1 t2:Nat} {cs1 cs2:Array Value} (h:Aside0 (d.R e w base ok v xs)) (k1:Aside0 (w.heap[g1]?=some (.cells cs1 t1 (0,0)))) (k2:Aside0 (w.heap[g2]?=some (.cells cs2 t2 (0,0)))) (hn1:∀ q,q ∈ e :: d.E->q ≠ t1:=by decide) (hn2:∀ q,q ∈ e :: d.E->q ≠ t2:=by decide) (f:d.R e w base (fun k=>(ok k∧k ≠ g1)∧k ≠ g2) v xs->d.R e W base (fun k=>(ok k∧k ≠ g1)∧k ≠ g2) v xs:=by intro h_;repeat (with_reducible first|exact h_|apply Kd.R_alloc|apply Kd.R_drewN|apply Kd.R_drew|apply rfa_|apply rfb_)):d.R e W base ok v xs:=Kd.R_mono (f (Kd.R_types (Kd.R_types h.out k1.out hn1) k2.out hn2)) (fun _ h_=>h_.1.1)
theorem kf3_ {g1 g2 g3 t1 t2 t3:Nat} {cs1 cs2 cs3:Array Value} (h:Aside0 (d.R e w base ok v xs)) (k1:Aside0 (w.heap[g1]?=some (.cells cs1 t1 (0,0)))) (k2:Aside0 (w.heap[g2]?=some (.cells cs2 t2 (0,0)))) (k3:Aside0 (w.heap[g3]?=some (.cells cs3 t3 (0,0)))) (hn1:∀ q,q ∈ e :: d.E->q ≠ t1:=by decide) (hn2:∀ q,q ∈ e :: d.E->q ≠ t2:=by decide) (hn3:∀ q,q ∈ e :: d.E->q ≠ t3:=by decide) (f:d.R e w base (fun k=>((ok k∧k ≠ g1)∧k ≠ g2)∧k ≠ g3) v xs->d.R e W base (fun k=>((ok k∧k ≠ g1)∧k ≠ g2)∧k ≠ g3) v xs:=by intro h_;repeat (with_reducible first|exact h_|apply Kd.R_alloc|apply Kd.R_drewN|apply Kd.R_drew|apply rga_|apply rgb_|apply rgc_)):d.R e W base ok v xs:=Kd.R_mono (f (Kd.R_types (Kd.R_types (Kd.R_types h.out k1.out hn1) k2.out hn2) k3.out hn3)) (fun _ h_=>h_.1.1.1)
end
def spec_OpenStore.l0:Nat->List S37->List Int->Int->Int->List ByteArray->Int->ByteArray->List Int->Int->Option (List ByteArray × Int × ByteArray × List Int × Int × Int)
 | 0,_,_,_,_,_,_,_,_,_=>none
 | k+1,t,b,cnt,at_,l,n,s,m,u=>if at_ < (b.length:Int) then ((spec_GetCommit.f k b at_).bind fun g=>(if g.2.2.2.2=true then ((spec_l12Commit.f k l n s m u t g.1 g.2.1 g.2.2.1).bind fun r=>(if r.2.2.2.2.2=0 then (spec_OpenStore.l0 k t b (wrap64 (cnt+1)) g.2.2.2.1 r.1 r.2.1 r.2.2.1 r.2.2.2.1 r.2.2.2.2.1) else (some (l,n,s,m,u,cnt)))) else (some (l,n,s,m,u,cnt)))) else (some (l,n,s,m,u,cnt))
def spec_OpenStore.f (k:Nat) (t:List S37) (b:List Int):Option (List ByteArray × Int × ByteArray × List Int × Int × Int) :=
 (spec_StoreNew.f k).bind fun q=>((spec_OpenStore.l0 k t (if (b.length:Int) > 60000 then b.take (60000:Int).toNat else b) 0 0 q.1 q.2.1 q.2.2.1 q.2.2.2.1 q.2.2.2.2).bind fun r=>some (r.1,r.2.1,r.2.2.1,r.2.2.2.1,(r.2.2.2.1.length:Int),r.2.2.2.2.2))
theorem spec_OpenStore.calls (k:Nat) (A0:Option Addr) (c0:Nat) (t:List S37) (A1:Option Addr) (c1:Nat) (b:List Int) (r1:List ByteArray) (r2:Int) (r3:ByteArray) (r4:List Int) (r5 r6:Int) (w:World)
  (hr0:Kd.C k37 w A0 t.length t) (hc0:t.length≤c0) (hr1:Kd.C (Kd.int .u8) w A1 b.length b) (hc1:b.length≤c1) (h:spec_OpenStore.f k t b=some (r1,r2,r3,r4,r5,r6)) :
  Calls Tryz.prog 94 #[.slice A0 t.length c0,.slice A1 b.length c1] w fun e w'=>∃ v0_ v3_:Value,e = .returned (.tuple #[.agg #[v0_,.int .i64 r2,.string r3,v3_,.int .i64 r5],.int .i64 r6])∧Kd.R Kd.string 9 w' w.heap.size (fun _=>True) v0_ r1∧Kd.R (Kd.int .u8) 5 w' w.heap.size (fun _=>True) v3_ r4∧Below w.heap.size w w':=by
 have hu37:=Tryz.underlying41
 have hu28:=Tryz.underlying37
 have HR0:=am_ hr0
 have HC0:=am_ hc0
 have HR1:=am_ hr1
 have HC1:=am_ hc1
 have HB:=h0_ w
 unfold spec_OpenStore.f at h
 replace h:=bi_ h;obtain ⟨⟨q1,q2,q3,q4,q5⟩,AN,h⟩:=h
 dsimp only at h
 replace h:=bi_ h;obtain ⟨⟨y1,y2,y3,y4,y5,y6⟩,AL,h⟩:=h
 dsimp only at h
 replace h:=so6_ h;obtain ⟨rfl,rfl,rfl,rfl,rfl,rfl⟩:=h
 clear hr0 hc0 hr1 hc1
 go_enter Tryz.func94,Tryz.ntmps94
 go_upto_if 18 with (first|((with_reducible refine gd_ 4 ?_);refine x41_ 4 ?_;intro g4 hg w1 hbox hb;have B4:=am_ hbox;have G4:=gg_ hg HB;replace HB:=ss_ HB hb;clear hb hbox hg)|((with_reducible refine gq_ 126 15 ?_);refine gc_ 15 Tryz.func126 (spec_StoreNew.calls k q1 q2 q3 q4 q5 _ AN.out) ?_;rintro e w2 ⟨v0,v3,rfl,ho,hp,hb⟩;refine ⟨_,rfl,?_⟩;have HO:=rlo_ ho HB;have HP:=rlo_ hp HB;replace HB:=ss_ HB hb;replace B4:=kl_ B4 hb;clear hb ho hp;obtain ⟨Ao,co,eo⟩:=Kd.R_slice HO.out;subst eo;obtain ⟨Ap,cp,ep⟩:=Kd.R_slice HP.out;subst ep)|((with_reducible refine gd_ 6 ?_);refine x41_ 6 ?_;intro g6 hg w3 hbox hb;have B6:=am_ hbox;have G6:=gg_ hg HB;have N46:=nla_ hg B4;replace HB:=ss_ HB hb;replace B4:=kl_ B4 hb;replace HO:=rb_ HO hb;replace HP:=rb_ HP hb;clear hb hbox hg;have hz6:=cz5_ B6))
 (try simp only [Act.put,List.setIfInBounds_toArray,List.set_cons_zero,List.set_cons_succ])
 go_cut [1] (fun v1 wc=>∃ (b':List Int),v1 = .slice A1 b'.length c1∧Aside0 (Kd.C (Kd.int .u8) w A1 b'.length b')∧Aside0 (b'.length≤c1)∧Aside0 (spec_OpenStore.l0 k t b' 0 0 q1 q2 q3 q4 q5=some (y1,y2,y3,y4,y5,y6))∧Aside0 (Kd.R Kd.string 9 wc w.heap.size (fun _=>True) (.slice Ao q1.length co) q1)∧Aside0 (Kd.R (Kd.int .u8) 5 wc w.heap.size (fun _=>True) (.slice Ap q4.length cp) q4)∧Aside0 (wc.heap[g6]?=some (.cells #[.slice Ao q1.length co,.int .i64 q2,.string q3,.slice Ap q4.length cp,.int .i64 q5] 41 (0,0)))∧Aside0 (wc.heap[g4]?=some (.cells #[.slice none 0 0,.int .i64 0,.string (⟨#[]⟩:ByteArray),.slice none 0 0,.int .i64 0] 41 (0,0)))∧Aside0 (Below w.heap.size w wc))
 case first =>
  by_cases d0:(b.length:Int) > 60000
  ·have d0b:decide (60000 < (b.length:Int))=true:=decide_eq_true d0
   have d0c:decide (60000 < b.length)=true:=decide_eq_true (by omega)
   have AL2:=AL.out
   rw [if_pos d0] at AL2
   obtain ⟨i0,hi0,_,hsz0,_⟩:=info_parts info5
   obtain ⟨hcut,hA,hC⟩:=print_take_of (P:=Tryz.prog) (Value.int .u8) 0 27 5 .i64 Tryz.underlying27 hi0 hsz0 A1 c1 b 60000 (by omega) (by omega) HC1.out
   have HRb:=am_ (Kd.C_of_reads (h1:=fun _=>rfl) (hA _ (Kd.reads_of_C HR1.out)))
   have HCb:=am_ hC
   have AL3:=am_ AL2
   clear hA hC hi0 hsz0 d0 AL AL2
   generalize b.take (60000:Int).toNat=b' at *
   (first | rw [d0b]|(simp only [i64_w,i32_w];rw [d0b])|rw [d0c]|skip)
   go_wp2
   go_meet
   case rel => exact ⟨b',e1_,HRb,HCb,AL3,⟨kf_ HO B6⟩,⟨kf_ HP B6⟩,⟨kq_ B6⟩,⟨kq_ B4⟩,⟨bw_ HB⟩⟩
  ·have d0b:decide (60000 < (b.length:Int))=false:=decide_eq_false d0
   have d0c:decide (60000 < b.length)=false:=decide_eq_false (by omega)
   have AL2:=AL.out
   rw [if_neg d0] at AL2
   have AL3:=am_ AL2
   clear d0 AL AL2
   (first | rw [d0b]|(simp only [i64_w,i32_w];rw [d0b])|rw [d0c]|skip)
   go_wp2
   go_meet
   case rel => exact ⟨b,e1_,HR1,HC1,AL3,⟨kf_ HO B6⟩,⟨kf_ HP B6⟩,⟨kq_ B6⟩,⟨kq_ B4⟩,⟨bw_ HB⟩⟩
 case rest =>
  clear AL HO HP B6 B4 HB hz6
  obtain ⟨b',rfl,HRb,HCb,AL,HO,HP,B6,B4,HB⟩:=hcut
  go_wp2
  go_loopg [7,8] k (fun kq v7 v8 w'=>∃ (cnt at_:Int) (l:List ByteArray) (n:Int) (s:ByteArray) (m:List Int) (u:Int) (Ao:Option Addr) (co:Nat) (Ap:Option Addr) (cp:Nat),v7 = .int .i64 cnt∧v8 = .int .i64 at_∧Aside0 (spec_OpenStore.l0 kq t b' cnt at_ l n s m u=some (y1,y2,y3,y4,y5,y6))∧Aside0 (kq≤k)∧Aside0 (Kd.R Kd.string 9 w' w.heap.size (fun _=>True) (.slice Ao l.length co) l)∧Aside0 (Kd.R (Kd.int .u8) 5 w' w.heap.size (fun _=>True) (.slice Ap m.length cp) m)∧Aside0 (w'.heap[g6]?=some (.cells #[.slice Ao l.length co,.int .i64 n,.string s,.slice Ap m.length cp,.int .i64 u] 41 (0,0)))∧Aside0 (w'.heap[g4]?=some (.cells #[.slice none 0 0,.int .i64 0,.string (⟨#[]⟩:ByteArray),.slice none 0 0,.int .i64 0] 41 (0,0)))∧Aside0 (Below w.heap.size w w'))
  case atStart => exact ⟨0,0,q1,q2,q3,q4,q5,Ao,co,Ap,cp,e1_,e1_,AL,⟨Nat.le_refl _⟩,HO,HP,B6,B4,HB⟩
  case round =>
   clear AL HO HP B6 B4 HB
   obtain ⟨cnt,at_,l,n,s,m,u,Ao,co,Ap,cp,rfl,rfl,HA,HK1,HO,HP,B6,B4,HB⟩:=hrel
   cases gk with
   | zero=>exact absurd HA.out (by simp [spec_OpenStore.l0])
   | succ k1 =>
    have H:=HA.out
    clear HA
    simp only [spec_OpenStore.l0] at H
    replace H:=it_ H;obtain ⟨d1,H⟩|⟨d1,H⟩:=H
    ·have d1b:decide (at_ < (b'.length:Int))=true:=decide_eq_true d1
     clear d1
     replace H:=bi_ H;obtain ⟨⟨g1,g2,g3,gn,g5⟩,AG,H⟩:=H
     dsimp only at H
     replace H:=itb_ H;obtain ⟨rfl,H⟩|⟨rfl,H⟩:=H
     ·replace H:=bi_ H;obtain ⟨⟨z1,z2,z3,z4,z5,z6⟩,AM,H⟩:=H
      dsimp only at H
      replace H:=it_ H;obtain ⟨d2,H⟩|⟨d2,H⟩:=H
      ·have d2b:(z6 == 0)=true:=beq_iff_eq.mpr d2
       have d2c:(z6 != 0)=false:=bne_eq_false_iff_eq.mpr d2
       clear d2
       have H':=am_ H
       clear H
       go_wp2_with (first|((with_reducible refine gq_ 127 30 ?_);refine gc_ 30 Tryz.func127 (spec_GetCommit.calls k1 _ _ b' at_ g1 g2 g3 gn true _ (cb_ HRb HB) HCb.out AG.out) ?_;rintro e w5 ⟨v,rfl,ho,hb⟩;refine ⟨_,rfl,?_⟩;have HX:=rlo_ ho HB;replace HO:=rb_ HO hb;replace HP:=rb_ HP hb;replace B4:=kl_ B4 hb;replace B6:=kl_ B6 hb;replace HB:=ss_ HB hb;clear hb ho;obtain ⟨Ax,cx,ex⟩:=Kd.R_slice HX.out;subst ex)|((with_reducible refine gd_ 9 ?_);refine x37_ 9 ?_;intro g9 hg w6 hbox hb;have B9:=am_ hbox;have G9:=gg_ hg HB;have N69:=nla_ hg B6;have N49:=nla_ hg B4;replace HB:=ss_ HB hb;replace B4:=kl_ B4 hb;replace B6:=kl_ B6 hb;replace HO:=rb_ HO hb;replace HP:=rb_ HP hb;replace HX:=rb_ HX hb;clear hb hbox hg;have hz9:=cz2_ B9;have hz6:=cz5_ B6;have hn1:=N69.out;have hn2:=N69.out.symm)|((with_reducible refine gq_ 128 42 ?_);refine gc_ 42 Tryz.func128 (spec_l12Commit.calls k1 _ _ l n s _ _ m u _ _ t g1 g2 _ _ g3 z1 z2 z3 z4 z5 z6 _ (chf_ HO B9) (cl_ HO) (chf_ HP B9) (cl_ HP) (Kd.C_below HR0.out (bw_ HB)) HC0.out (chf_ HX B9) (cl_ HX) AM.out) ?_;rintro e w7 ⟨v1,v2,rfl,ho,hp,hb⟩;refine ⟨_,rfl,?_⟩;have HV:=rlo_ ho HB;have HU:=rlo_ hp HB;replace HO:=rbf_ HO B9 hb;replace HP:=rbf_ HP B9 hb;replace B4:=kp_ B4 hb;replace B6:=kp_ B6 hb;replace HB:=ss_ HB hb;clear hb ho hp hz9 hz6 hn1 hn2 B9 N69 N49 HX;obtain ⟨Av,cv,ev⟩:=Kd.R_slice HV.out;subst ev;obtain ⟨Au,cu,eu⟩:=Kd.R_slice HU.out;subst eu)|((with_reducible refine gd_ 13 ?_);refine x41_ 13 ?_;intro g13 hg w8 hbox hb;have B13:=am_ hbox;have G13:=gg_ hg HB;have N6:=nla_ hg B6;have N4:=nla_ hg B4;replace HB:=ss_ HB hb;replace B4:=kl_ B4 hb;replace B6:=kl_ B6 hb;replace HV:=rb_ HV hb;replace HU:=rb_ HU hb;replace HO:=rb_ HO hb;replace HP:=rb_ HP hb;clear hb hbox hg;have hz13:=cz5_ B13;have hz6:=cz5_ B6;have hz4:=cz5_ B4;have hn1:=N6.out;have hn2:=N6.out.symm;have hn3:=N4.out;have hn4:=N4.out.symm;have hn5:=N46.out;have hn6:=N46.out.symm))
       go_roundg k1
       case measure => have:=HK1.out;omega
       case rel => exact ⟨wrap64 (cnt+1),gn,z1,z2,z3,z4,z5,Av,cv,Au,cu,e1_,e1_,H',⟨by have:=HK1.out;omega⟩,⟨kf2_ HV B13 B6⟩,⟨kf2_ HU B13 B6⟩,⟨kq_ B6⟩,⟨kq_ B4⟩,⟨bw_ HB⟩⟩
      ·have d2b:(z6 == 0)=false:=beq_eq_false_iff_ne.mpr d2
       have d2c:(z6 != 0)=true:=bne_iff_ne.mpr d2
       clear d2
       replace H:=so6_ H;obtain ⟨rfl,rfl,rfl,rfl,rfl,rfl⟩:=H
       go_wp2_with (first|((with_reducible refine gq_ 127 30 ?_);refine gc_ 30 Tryz.func127 (spec_GetCommit.calls k1 _ _ b' at_ g1 g2 g3 gn true _ (cb_ HRb HB) HCb.out AG.out) ?_;rintro e w5 ⟨v,rfl,ho,hb⟩;refine ⟨_,rfl,?_⟩;have HX:=rlo_ ho HB;replace HO:=rb_ HO hb;replace HP:=rb_ HP hb;replace B4:=kl_ B4 hb;replace B6:=kl_ B6 hb;replace HB:=ss_ HB hb;clear hb ho;obtain ⟨Ax,cx,ex⟩:=Kd.R_slice HX.out;subst ex)|((with_reducible refine gd_ 9 ?_);refine x37_ 9 ?_;intro g9 hg w6 hbox hb;have B9:=am_ hbox;have G9:=gg_ hg HB;have N69:=nla_ hg B6;have N49:=nla_ hg B4;replace HB:=ss_ HB hb;replace B4:=kl_ B4 hb;replace B6:=kl_ B6 hb;replace HO:=rb_ HO hb;replace HP:=rb_ HP hb;replace HX:=rb_ HX hb;clear hb hbox hg;have hz9:=cz2_ B9;have hz6:=cz5_ B6;have hn1:=N69.out;have hn2:=N69.out.symm)|((with_reducible refine gq_ 128 42 ?_);refine gc_ 42 Tryz.func128 (spec_l12Commit.calls k1 _ _ l n s _ _ m u _ _ t g1 g2 _ _ g3 z1 z2 z3 z4 z5 z6 _ (chf_ HO B9) (cl_ HO) (chf_ HP B9) (cl_ HP) (Kd.C_below HR0.out (bw_ HB)) HC0.out (chf_ HX B9) (cl_ HX) AM.out) ?_;rintro e w7 ⟨v1,v2,rfl,ho,hp,hb⟩;refine ⟨_,rfl,?_⟩;have HV:=rlo_ ho HB;have HU:=rlo_ hp HB;replace HO:=rbf_ HO B9 hb;replace HP:=rbf_ HP B9 hb;replace B4:=kp_ B4 hb;replace B6:=kp_ B6 hb;replace HB:=ss_ HB hb;clear hb ho hp hz9 hz6 hn1 hn2 B9 N69 N49 HX;obtain ⟨Av,cv,ev⟩:=Kd.R_slice HV.out;subst ev;obtain ⟨Au,cu,eu⟩:=Kd.R_slice HU.out;subst eu)|((with_reducible refine gd_ 13 ?_);refine x41_ 13 ?_;intro g13 hg w8 hbox hb;have B13:=am_ hbox;have G13:=gg_ hg HB;have N6:=nla_ hg B6;have N4:=nla_ hg B4;replace HB:=ss_ HB hb;replace B4:=kl_ B4 hb;replace B6:=kl_ B6 hb;replace HV:=rb_ HV hb;replace HU:=rb_ HU hb;replace HO:=rb_ HO hb;replace HP:=rb_ HP hb;clear hb hbox hg;have hz13:=cz5_ B13;have hz6:=cz5_ B6;have hz4:=cz5_ B4;have hn1:=N6.out;have hn2:=N6.out.symm;have hn3:=N4.out;have hn4:=N4.out.symm;have hn5:=N46.out;have hn6:=N46.out.symm))
       refine bodyPost_ret (rct_ g4 41 #[.slice Ao l.length co,.int .i64 n,.string s,.slice Ap m.length cp,.int .i64 (m.length:Int)] B4 Tryz.underlying41) rfl ?_
       exact ⟨_,_,rfl,kf3_ HO B13 B6 B4,kf3_ HP B13 B6 B4,bw_ HB⟩
     ·replace H:=so6_ H;obtain ⟨rfl,rfl,rfl,rfl,rfl,rfl⟩:=H
      go_wp2_with (first|((with_reducible refine gq_ 127 30 ?_);refine gc_ 30 Tryz.func127 (spec_GetCommit.calls k1 _ _ b' at_ g1 g2 g3 gn false _ (cb_ HRb HB) HCb.out AG.out) ?_;rintro e w5 ⟨v,rfl,ho,hb⟩;refine ⟨_,rfl,?_⟩;have HX:=rlo_ ho HB;replace HO:=rb_ HO hb;replace HP:=rb_ HP hb;replace B4:=kl_ B4 hb;replace B6:=kl_ B6 hb;replace HB:=ss_ HB hb;clear hb ho;obtain ⟨Ax,cx,ex⟩:=Kd.R_slice HX.out;subst ex)|((with_reducible refine gd_ 9 ?_);refine x37_ 9 ?_;intro g9 hg w6 hbox hb;have B9:=am_ hbox;have G9:=gg_ hg HB;have N69:=nla_ hg B6;have N49:=nla_ hg B4;replace HB:=ss_ HB hb;replace B4:=kl_ B4 hb;replace B6:=kl_ B6 hb;replace HO:=rb_ HO hb;replace HP:=rb_ HP hb;replace HX:=rb_ HX hb;clear hb hbox hg;have hz9:=cz2_ B9;have hz6:=cz5_ B6;have hn1:=N69.out;have hn2:=N69.out.symm;have hz4:=cz5_ B4;have hn3:=N49.out;have hn4:=N49.out.symm;have hn5:=N46.out;have hn6:=N46.out.symm))
      refine bodyPost_ret (rct_ g4 41 #[.slice Ao l.length co,.int .i64 n,.string s,.slice Ap m.length cp,.int .i64 (m.length:Int)] B4 Tryz.underlying41) rfl ?_
      exact ⟨_,_,rfl,kf3_ HO B9 B6 B4,kf3_ HP B9 B6 B4,bw_ HB⟩
    ·have d1b:decide (at_ < (b'.length:Int))=false:=decide_eq_false d1
     clear d1
     replace H:=so6_ H;obtain ⟨rfl,rfl,rfl,rfl,rfl,rfl⟩:=H
     have hz6:=cz5_ B6
     have hz4:=cz5_ B4
     have hn5:=N46.out
     have hn6:=N46.out.symm
     go_wp2
     refine bodyPost_ret (rct_ g4 41 #[.slice Ao l.length co,.int .i64 n,.string s,.slice Ap m.length cp,.int .i64 (m.length:Int)] B4 Tryz.underlying41) rfl ?_
     exact ⟨_,_,rfl,kf2_ HO B6 B4,kf2_ HP B6 B4,bw_ HB⟩
def impl_FallStore.f (l0_0:List ByteArray) (a0_1:Int) (a0_2:ByteArray) (l0_3:List Int) (a0_4:Int) (a1:Int):Option (List Int):=if 0≤(wrap64 ((mx 0 (mn a0_4 (l0_3.length:Int))) + (mn (mx a1 0) (wrap64 ((l0_3.length:Int) - (mx 0 (mn a0_4 (l0_3.length:Int)))))))) then (if (wrap64 ((mx 0 (mn a0_4 (l0_3.length:Int))) + (mn (mx a1 0) (wrap64 ((l0_3.length:Int) - (mx 0 (mn a0_4 (l0_3.length:Int))))))))≤(l0_3.length:Int) then ((slices_Clone_byte_byte.f (l0_3.take ((wrap64 ((mx 0 (mn a0_4 (l0_3.length:Int))) + (mn (mx a1 0) (wrap64 ((l0_3.length:Int) - (mx 0 (mn a0_4 (l0_3.length:Int)))))))):Int).toNat)).bind fun t3=>(some t3)) else (none)) else (none)
theorem impl_FallStore.calls (A0_0:Option Addr) (c0_0:Nat) (l0_0:List ByteArray) (a0_1:Int) (a0_2:ByteArray) (A0_3:Option Addr) (c0_3:Nat) (l0_3:List Int) (a0_4:Int) (a1:Int) (r:List Int) (w:World) (hr0_0:Kd.C Kd.string w A0_0 l0_0.length l0_0) (hc0_0:l0_0.length≤c0_0) (hr0_3:Kd.C (Kd.int .u8) w A0_3 l0_3.length l0_3) (hc0_3:l0_3.length≤c0_3) (h:impl_FallStore.f l0_0 a0_1 a0_2 l0_3 a0_4 a1=some r) :
  Calls Tryz.prog 92 #[.agg #[.slice A0_0 l0_0.length c0_0,.int .i64 a0_1,.string a0_2,.slice A0_3 l0_3.length c0_3,.int .i64 a0_4],.int .i64 a1] w fun e w'=>∃ v0_:Value,e = .returned (v0_)∧Kd.R (Kd.int .u8) 5 w' w.heap.size (fun _=>True) v0_ r∧Below w.heap.size w w':=by
 have hu41:=Tryz.underlying41
 have HR0_0:=am_ hr0_0
 have HC0_0:=am_ hc0_0
 clear hr0_0 hc0_0
 have HR0_3:=am_ hr0_3
 have HC0_3:=am_ hc0_3
 clear hr0_3 hc0_3
 have HB:=h0_ w
 have H:(if 0≤(wrap64 ((mx 0 (mn a0_4 (l0_3.length:Int))) + (mn (mx a1 0) (wrap64 ((l0_3.length:Int) - (mx 0 (mn a0_4 (l0_3.length:Int)))))))) then (if (wrap64 ((mx 0 (mn a0_4 (l0_3.length:Int))) + (mn (mx a1 0) (wrap64 ((l0_3.length:Int) - (mx 0 (mn a0_4 (l0_3.length:Int))))))))≤(l0_3.length:Int) then ((slices_Clone_byte_byte.f (l0_3.take ((wrap64 ((mx 0 (mn a0_4 (l0_3.length:Int))) + (mn (mx a1 0) (wrap64 ((l0_3.length:Int) - (mx 0 (mn a0_4 (l0_3.length:Int)))))))):Int).toNat)).bind fun t3=>(some t3)) else (none)) else (none))=some r:=h
 clear h
 generalize hji3:(mn a0_4 (l0_3.length:Int))=ji3 at H
 have hji3_:(if (l0_3.length:Int) < a0_4 then (l0_3.length:Int) else a0_4)=ji3:=hji3
 generalize hji4:(mx 0 (ji3))=ji4 at H
 have hji4_:(if 0 < (ji3) then (ji3) else 0)=ji4:=hji4
 generalize hji5:(mx a1 0)=ji5 at H
 (try (have hji5l:0≤ji5:=by (rw [← hji5];unfold mx;(repeat' split) <;> omega)))
 (try (have hji5m:0≤ji5:=by omega))
 have hji5_:(if a1 < 0 then 0 else a1)=ji5:=hji5
 generalize hji6:(mn (ji5) (wrap64 ((l0_3.length:Int) - (ji4))))=ji6 at H
 have hji6_:(if (wrap64 ((l0_3.length:Int) - (ji4))) < (ji5) then (wrap64 ((l0_3.length:Int) - (ji4))) else (ji5))=ji6:=hji6
 generalize hji7:(wrap64 ((ji4) + (ji6)))=ji7 at H
 have hji7w:(IntKind.i64.wrap ((ji4) + (ji6)))=ji7:=(i64_w _).trans hji7
 replace H:=ip_ H;obtain ⟨c8,H⟩:=H
 have c8b0:=eq_true c8
 have c8b1:=decide_eq_true c8
 clear c8
 replace H:=ip_ H;obtain ⟨c9,H⟩:=H
 have c9b0:=eq_true c9
 have c9b1:=decide_eq_true c9
 clear c9
 replace H:=bi_ H;obtain ⟨t3,A10,H⟩:=H
 obtain rfl:=Option.some.inj H
 go_enter Tryz.func92,Tryz.ntmps92
 go_wp2_with (first|((with_reducible refine gd_ 2 ?_);refine bx_ 2 41 #[.slice A0_0 l0_0.length c0_0,.int .i64 a0_1,.string a0_2,.slice A0_3 l0_3.length c0_3,.int .i64 a0_4] (hx_ HB ?_);clear HB;intro gb1 w11 BK1 GW1 HB;have GE1:=GW1;have hz12:=cz5_ BK1;obtain ⟨i013,hi013,_,hsz13,_⟩:=info_parts info5;obtain ⟨hcut13,hA13,hC13⟩:=print_take_of (P:=Tryz.prog) (Value.int .u8) 0 27 5 .i64 Tryz.underlying27 hi013 hsz13 A0_3 c0_3 l0_3 (ji7) (od_) (od_) HC0_3.out;have HR2:=am_ (Kd.C_of_reads (h1:=fun _=>rfl) (hA13 _ (Kd.reads_of_C HR0_3.out)));have HC2:=am_ hC13;clear hA13 hC13 hi013 hsz13)|((with_reducible refine gk_ 122 ?_);refine gl_ 28 Tryz.func122 #[.slice A0_3 (l0_3.take ((ji7):Int).toNat).length c0_3] ?_ (hargs:=(by (try simp only [List.map_toArray,List.map_cons,List.map_nil]);first|done|(rw [show (l0_3.take ((ji7):Int).toNat).length=(ji7).toNat from (by rw [List.length_take];have h_:((ji7):Int)≤(l0_3.length:Int):=od_;omega)] <;> rfl)|(simp only [hji7];rfl)|rfl|(simp only [List.length_drop,List.length_take];rfl)));(with_reducible refine (slices_Clone_byte_byte.calls _ _ (l0_3.take ((ji7):Int).toNat) t3 _ ?side1 ?side2 A10.out).mono ?_);(case side1=>exact cb_ HR2 HB);(case side2=>exact HC2.out);rintro e w14 ⟨v4,rfl,ho0,hb⟩;refine ⟨_,rfl,?_⟩;have HO5:=rlo_ ho0 HB;replace BK1:=kl_ BK1 hb;replace HB:=ss_ HB hb;clear hb ho0))
 go_ret
 exact ⟨_,by first|rfl|(simp [errW_none,errW_some] <;> rfl)|(simp only [← hji3,← hji4,← hji5,← hji6,← hji7];first|rfl|(simp [errW_none,errW_some] <;> rfl))|(simp [*,errW_none,errW_some] <;> rfl),kr_ HO5.out,bw_ HB⟩
mutual
def spec_FallStore.j0:Nat->Int->Int->List ByteArray->Int->ByteArray->List Int->Int->Option (List Int)
 | 0,_,_,_,_,_,_,_=>none
 | k+1,x1,x5,x2000,x2001,x2002,x2003,x2004=>if x5 > (x2003.length:Int) then (spec_FallStore.j1 k x1 (x2003.length:Int) x2000 x2001 x2002 x2003 x2004) else (spec_FallStore.j1 k x1 x5 x2000 x2001 x2002 x2003 x2004)
def spec_FallStore.j1:Nat->Int->Int->List ByteArray->Int->ByteArray->List Int->Int->Option (List Int)
 | 0,_,_,_,_,_,_,_=>none
 | k+1,x1,x5,x2000,x2001,x2002,x2003,x2004=>if x1 > 0 then (if x1 > (wrap64 ((x2003.length:Int) - x5)) then ((some (([]:List Int):List Int)).bind fun y602=>(if 0≤(wrap64 (x5+(wrap64 ((x2003.length:Int) - x5)))) then (if (wrap64 (x5+(wrap64 ((x2003.length:Int) - x5))))≤(x2003.length:Int) then (if y602.length+(x2003.take ((wrap64 (x5+(wrap64 ((x2003.length:Int) - x5)))):Int).toNat).length < 140737488355328 then (some (y602 ++ (x2003.take ((wrap64 (x5+(wrap64 ((x2003.length:Int) - x5)))):Int).toNat))) else (none)) else (none)) else (none))) else ((some (([]:List Int):List Int)).bind fun y9=>(if 0≤(wrap64 (x5+x1)) then (if (wrap64 (x5+x1))≤(x2003.length:Int) then (if y9.length+(x2003.take ((wrap64 (x5+x1)):Int).toNat).length < 140737488355328 then (some (y9 ++ (x2003.take ((wrap64 (x5+x1)):Int).toNat))) else (none)) else (none)) else (none)))) else ((some (([]:List Int):List Int)).bind fun y16=>(if 0≤x5 then (if x5≤(x2003.length:Int) then (if y16.length+(x2003.take (x5:Int).toNat).length < 140737488355328 then (some (y16 ++ (x2003.take (x5:Int).toNat))) else (none)) else (none)) else (none)))
end
def spec_FallStore.f (k:Nat) (l0_0:List ByteArray) (a0_1:Int) (a0_2:ByteArray) (l0_3:List Int) (a0_4:Int) (a1:Int):Option (List Int):=if a0_4 < 0 then (spec_FallStore.j0 k a1 0 l0_0 a0_1 a0_2 l0_3 a0_4) else (spec_FallStore.j0 k a1 a0_4 l0_0 a0_1 a0_2 l0_3 a0_4)
theorem spec_FallStore.calls (k:Nat) (A0_0:Option Addr) (c0_0:Nat) (l0_0:List ByteArray) (a0_1:Int) (a0_2:ByteArray) (A0_3:Option Addr) (c0_3:Nat) (l0_3:List Int) (a0_4:Int) (a1:Int) (r:List Int) (w:World) (hr0_0:Kd.C Kd.string w A0_0 l0_0.length l0_0) (hc0_0:l0_0.length≤c0_0) (hr0_3:Kd.C (Kd.int .u8) w A0_3 l0_3.length l0_3) (hc0_3:l0_3.length≤c0_3) (h:spec_FallStore.f k l0_0 a0_1 a0_2 l0_3 a0_4 a1=some r) :
  Calls Tryz.prog 95 #[.agg #[.slice A0_0 l0_0.length c0_0,.int .i64 a0_1,.string a0_2,.slice A0_3 l0_3.length c0_3,.int .i64 a0_4],.int .i64 a1] w fun e w'=>∃ v0_:Value,e = .returned (v0_)∧Kd.R (Kd.int .u8) 5 w' w.heap.size (fun _=>True) v0_ r∧Below w.heap.size w w':=by
 have hu41:=Tryz.underlying41
 have HR0_0:=am_ hr0_0
 have HC0_0:=am_ hc0_0
 clear hr0_0 hc0_0
 have HR0_3:=am_ hr0_3
 have HC0_3:=am_ hc0_3
 clear hr0_3 hc0_3
 have HB:=h0_ w
 have H:(if a0_4 < 0 then (spec_FallStore.j0 k a1 0 l0_0 a0_1 a0_2 l0_3 a0_4) else (spec_FallStore.j0 k a1 a0_4 l0_0 a0_1 a0_2 l0_3 a0_4))=some r:=h
 clear h
 have HC3:=am_ H
 clear H
 go_enter Tryz.func95,Tryz.ntmps95
 go_upto_if 9 with (first|((with_reducible refine gd_ 2 ?_);refine bx_ 2 41 #[.slice A0_0 l0_0.length c0_0,.int .i64 a0_1,.string a0_2,.slice A0_3 l0_3.length c0_3,.int .i64 a0_4] (hx_ HB ?_);clear HB;intro gb1 w4 BK1 GW1 HB;have GE1:=GW1;have hz5:=cz5_ BK1))
 (try simp only [Act.put,List.setIfInBounds_toArray,List.set_cons_zero,List.set_cons_succ])
 go_cut [5] (fun v5 wc=>∃ (kq:Nat) (x5_2:Int),v5 = .int .i64 x5_2∧Aside0 (spec_FallStore.j0 kq a1 x5_2 l0_0 a0_1 a0_2 l0_3 a0_4=some r)∧Aside0 (kq≤k)∧Aside0 (wc.heap[gb1]?=some (.cells #[(.slice A0_0 l0_0.length c0_0),.int .i64 a0_1,.string a0_2,(.slice A0_3 l0_3.length c0_3),.int .i64 a0_4] 41 (0,0)))∧Aside0 (Below w.heap.size w wc))
 case first =>
  have H:=HC3.out
  clear HC3
  replace H:=itd_ H;obtain ⟨c6b0,H⟩|⟨c6b0,H⟩:=H
  ·(first | rw [c6b0]|(simp only [i64_w,i32_w];rw [c6b0])|skip)
   have H':=am_ H
   clear H
   go_wp2
   go_meet
   case rel => exact ⟨_,(0),e1_,H',⟨le_⟩,⟨kb_ BK1.out⟩,⟨bw_ HB⟩⟩
  ·(first | rw [c6b0]|(simp only [i64_w,i32_w];rw [c6b0])|skip)
   have H':=am_ H
   clear H
   go_wp2
   go_meet
   case rel => exact ⟨_,(a0_4),e1_,H',⟨le_⟩,⟨kb_ BK1.out⟩,⟨bw_ HB⟩⟩
 case rest =>
  clear HC3
  try clear hz5
  obtain ⟨kq,x5_2,rfl,HA,HJ2,BK1,HB⟩:=hcut
  cases kq with
  | zero=>exact absurd HA.out (by simp [spec_FallStore.j0])
  | succ kj2 =>
   have H:=HA.out
   clear HA
   simp only [spec_FallStore.j0] at H
   have HC7:=am_ H
   clear H
   have hz8:=cz5_ BK1
   go_upto_if 14 with (fail)
   go_cut [5] (fun v5 wc=>∃ (kq:Nat) (x5_6:Int),v5 = .int .i64 x5_6∧Aside0 (spec_FallStore.j1 kq a1 x5_6 l0_0 a0_1 a0_2 l0_3 a0_4=some r)∧Aside0 (kq≤kj2)∧Aside0 (wc.heap[gb1]?=some (.cells #[(.slice A0_0 l0_0.length c0_0),.int .i64 a0_1,.string a0_2,(.slice A0_3 l0_3.length c0_3),.int .i64 a0_4] 41 (0,0)))∧Aside0 (Below w.heap.size w wc))
   case first =>
    have H:=HC7.out
    clear HC7
    replace H:=it_ H;obtain ⟨c9,H⟩|⟨c9,H⟩:=H
    ·have c9b0:decide ((l0_3.length:Int) < x5_2)=true:=decide_eq_true c9
     clear c9
     (first | rw [c9b0]|(simp only [i64_w,i32_w];rw [c9b0])|skip)
     have H':=am_ H
     clear H
     have hz10:=cz5_ BK1
     go_wp2
     go_meet
     case rel => exact ⟨_,((l0_3.length:Int)),e1_,H',⟨by have:=HJ2.out;first|omega|exact Nat.le_refl _⟩,⟨kb_ BK1.out⟩,⟨bw_ HB⟩⟩
    ·have c9b0:decide ((l0_3.length:Int) < x5_2)=false:=decide_eq_false c9
     clear c9
     (first | rw [c9b0]|(simp only [i64_w,i32_w];rw [c9b0])|skip)
     have H':=am_ H
     clear H
     go_wp2
     go_meet
     case rel => exact ⟨_,(x5_2),e1_,H',⟨by have:=HJ2.out;first|omega|exact Nat.le_refl _⟩,⟨kb_ BK1.out⟩,⟨bw_ HB⟩⟩
   case rest =>
    clear HC7
    try clear p2
    try clear c6
    try clear c6b0
    try clear hz5
    try clear hz8
    obtain ⟨kq,x5_6,rfl,HA,HJ6,BK1,HB⟩:=hcut
    cases kq with
    | zero=>exact absurd HA.out (by simp [spec_FallStore.j1])
    | succ kj6 =>
     have H:=HA.out
     clear HA
     simp only [spec_FallStore.j1] at H
     replace H:=it_ H;obtain ⟨c11,H⟩|⟨c11,H⟩:=H
     ·have c11b0:decide (0 < a1)=true:=decide_eq_true c11
      clear c11
      replace H:=it_ H;obtain ⟨c12,H⟩|⟨c12,H⟩:=H
      ·have c12b0:decide ((wrap64 ((l0_3.length:Int) - x5_6)) < a1)=true:=decide_eq_true c12
       clear c12
       obtain ⟨y602,Ny2,H⟩:=sb_ (([]:List Int)) H
       generalize hji13:(wrap64 (x5_6+(wrap64 ((l0_3.length:Int) - x5_6))))=ji13 at H
       have hji13w:(IntKind.i64.wrap (x5_6+(wrap64 ((l0_3.length:Int) - x5_6))))=ji13:=(i64_w _).trans hji13
       replace H:=ip_ H;obtain ⟨c14,H⟩:=H
       have c14b0:=eq_true c14
       have c14b1:=decide_eq_true c14
       clear c14
       replace H:=ip_ H;obtain ⟨c15,H⟩:=H
       have c15b0:=eq_true c15
       have c15b1:=decide_eq_true c15
       clear c15
       replace H:=ip_ H;obtain ⟨c16,H⟩:=H
       have LMc16:=am_ c16
       clear c16
       obtain ⟨y606,hy6⟩:∃ y_:List Int,y_=(y602 ++ (l0_3.take ((ji13):Int).toNat)):=⟨_,rfl⟩
       replace H:(some y606)=some r:=yh_ hy6 H
       have Ny6:=am_ hy6
       clear hy6
       obtain rfl:=Option.some.inj H
       have hz17:=cz5_ BK1
       go_wp2_with (first|((with_reducible refine gd_ 35 ?_);refine rl_ (Kd.int .u8) 5 35 ([]:List Int) [] ?_;intro v3 w18 ho19 hb hg_ hnew_;clear hg_ hnew_;(first|rw [← Ny2.out] at ho19|(simp only [Int.reduceToNat] at ho19;rw [← Ny2.out] at ho19));have HO4:=rlo_ ho19 HB;replace BK1:=kl_ BK1 hb;replace HB:=ss_ HB hb;clear hb ho19;have hz20:=cz5_ BK1;obtain ⟨i021,hi021,_,hsz21,_⟩:=info_parts info5;obtain ⟨hcut21,hA21,hC21⟩:=print_take_of (P:=Tryz.prog) (Value.int .u8) 0 27 5 .i64 Tryz.underlying27 hi021 hsz21 A0_3 c0_3 l0_3 (ji13) (od_) (od_) HC0_3.out;have HR5:=am_ (Kd.C_of_reads (h1:=fun _=>rfl) (hA21 _ (Kd.reads_of_C HR0_3.out)));have HC5:=am_ hC21;clear hA21 hC21 hi021 hsz21)|((with_reducible refine gate_builtin (b:=.append) (xs:=#[.tmp 35,.tmp 39]) rfl ?_);at_builtin;refine Kd.R_append_rows (Kd.int .u8) (w0:=w) w.heap.size rfl (.tmp 35) (.tmp 39) 27 5 (.int .u8 0) 1 rfl Tryz.underlying27 info5 rfl (by decide) (by omega) v3 y602 (l0_3.take ((ji13):Int).toNat) _ _ _ (fun _=>True) (fun _=>False) rfl rfl ?aO ?aR (fun _ _ h=>h) (fun _ h=>h.elim) ?aF ?aB ?aS ?aL ?_;(case aR=>first|(have hl_:(l0_3.take ((ji13):Int).toNat).length=(ji13).toNat:=(by rw [List.length_take];have h_:((ji13):Int)≤(l0_3.length:Int):=od_;omega);have hq_:=(Kd.C_below HR5.out HB.out);generalize (l0_3.take ((ji13):Int).toNat).length=m_ at hq_ hl_;subst hl_;exact hq_)|(rw [← show (l0_3.take ((ji13):Int).toNat).length=(ji13).toNat from (by rw [List.length_take];have h_:((ji13):Int)≤(l0_3.length:Int):=od_;omega)];exact cb_ HR5 HB)|(exact cb_ HR5 HB));(case aB=>exact (bw_ HB));(case aF=>exact (fun _ _=>trivial));(case aO=>exact (kr_ HO4.out));(case aS=>exact (sz_ HB));(case aL=>have:=LMc16.out;have hlx_:=(show (l0_3.take ((ji13):Int).toNat).length=(ji13).toNat from (by rw [List.length_take];have h_:((ji13):Int)≤(l0_3.length:Int):=od_;omega));omega);intro v7 w22 ho hb hg hat;rw [← Ny6.out] at ho;replace BK1:=kg_ BK1 HO4 hg;replace HB:=am_ hb;have HO8:=am_ ho;clear HO4;clear ho hb hg hat))
       go_ret
       exact ⟨_,by first|rfl|(simp [errW_none,errW_some] <;> rfl)|(simp only [← hji13];first|rfl|(simp [errW_none,errW_some] <;> rfl))|(simp [*,errW_none,errW_some] <;> rfl),kr_ HO8.out,bw_ HB⟩
      ·have c12b0:decide ((wrap64 ((l0_3.length:Int) - x5_6)) < a1)=false:=decide_eq_false c12
       clear c12
       obtain ⟨y9,Ny9,H⟩:=sb_ (([]:List Int)) H
       generalize hji23:(wrap64 (x5_6+a1))=ji23 at H
       have hji23w:(IntKind.i64.wrap (x5_6+a1))=ji23:=(i64_w _).trans hji23
       replace H:=ip_ H;obtain ⟨c24,H⟩:=H
       have c24b0:=eq_true c24
       have c24b1:=decide_eq_true c24
       clear c24
       replace H:=ip_ H;obtain ⟨c25,H⟩:=H
       have c25b0:=eq_true c25
       have c25b1:=decide_eq_true c25
       clear c25
       replace H:=ip_ H;obtain ⟨c26,H⟩:=H
       have LMc26:=am_ c26
       clear c26
       obtain ⟨y13,hy13⟩:∃ y_:List Int,y_=(y9 ++ (l0_3.take ((ji23):Int).toNat)):=⟨_,rfl⟩
       replace H:(some y13)=some r:=yh_ hy13 H
       have Ny13:=am_ hy13
       clear hy13
       obtain rfl:=Option.some.inj H
       have hz27:=cz5_ BK1
       go_wp2_with (first|((with_reducible refine gd_ 35 ?_);refine rl_ (Kd.int .u8) 5 35 ([]:List Int) [] ?_;intro v10 w28 ho29 hb hg_ hnew_;clear hg_ hnew_;(first|rw [← Ny9.out] at ho29|(simp only [Int.reduceToNat] at ho29;rw [← Ny9.out] at ho29));have HO11:=rlo_ ho29 HB;replace BK1:=kl_ BK1 hb;replace HB:=ss_ HB hb;clear hb ho29;have hz30:=cz5_ BK1;obtain ⟨i031,hi031,_,hsz31,_⟩:=info_parts info5;obtain ⟨hcut31,hA31,hC31⟩:=print_take_of (P:=Tryz.prog) (Value.int .u8) 0 27 5 .i64 Tryz.underlying27 hi031 hsz31 A0_3 c0_3 l0_3 (ji23) (od_) (od_) HC0_3.out;have HR12:=am_ (Kd.C_of_reads (h1:=fun _=>rfl) (hA31 _ (Kd.reads_of_C HR0_3.out)));have HC12:=am_ hC31;clear hA31 hC31 hi031 hsz31)|((with_reducible refine gate_builtin (b:=.append) (xs:=#[.tmp 35,.tmp 39]) rfl ?_);at_builtin;refine Kd.R_append_rows (Kd.int .u8) (w0:=w) w.heap.size rfl (.tmp 35) (.tmp 39) 27 5 (.int .u8 0) 1 rfl Tryz.underlying27 info5 rfl (by decide) (by omega) v10 y9 (l0_3.take ((ji23):Int).toNat) _ _ _ (fun _=>True) (fun _=>False) rfl rfl ?aO ?aR (fun _ _ h=>h) (fun _ h=>h.elim) ?aF ?aB ?aS ?aL ?_;(case aR=>first|(have hl_:(l0_3.take ((ji23):Int).toNat).length=(ji23).toNat:=(by rw [List.length_take];have h_:((ji23):Int)≤(l0_3.length:Int):=od_;omega);have hq_:=(Kd.C_below HR12.out HB.out);generalize (l0_3.take ((ji23):Int).toNat).length=m_ at hq_ hl_;subst hl_;exact hq_)|(rw [← show (l0_3.take ((ji23):Int).toNat).length=(ji23).toNat from (by rw [List.length_take];have h_:((ji23):Int)≤(l0_3.length:Int):=od_;omega)];exact cb_ HR12 HB)|(exact cb_ HR12 HB));(case aB=>exact (bw_ HB));(case aF=>exact (fun _ _=>trivial));(case aO=>exact (kr_ HO11.out));(case aS=>exact (sz_ HB));(case aL=>have:=LMc26.out;have hlx_:=(show (l0_3.take ((ji23):Int).toNat).length=(ji23).toNat from (by rw [List.length_take];have h_:((ji23):Int)≤(l0_3.length:Int):=od_;omega));omega);intro v14 w32 ho hb hg hat;rw [← Ny13.out] at ho;replace BK1:=kg_ BK1 HO11 hg;replace HB:=am_ hb;have HO15:=am_ ho;clear HO11;clear ho hb hg hat))
       go_ret
       exact ⟨_,by first|rfl|(simp [errW_none,errW_some] <;> rfl)|(simp only [← hji23];first|rfl|(simp [errW_none,errW_some] <;> rfl))|(simp [*,errW_none,errW_some] <;> rfl),kr_ HO15.out,bw_ HB⟩
     ·have c11b0:decide (0 < a1)=false:=decide_eq_false c11
      clear c11
      obtain ⟨y16,Ny16,H⟩:=sb_ (([]:List Int)) H
      replace H:=ip_ H;obtain ⟨c33,H⟩:=H
      have c33b0:=eq_true c33
      have c33b1:=decide_eq_true c33
      clear c33
      replace H:=ip_ H;obtain ⟨c34,H⟩:=H
      have c34b0:=eq_true c34
      have c34b1:=decide_eq_true c34
      clear c34
      replace H:=ip_ H;obtain ⟨c35,H⟩:=H
      have LMc35:=am_ c35
      clear c35
      obtain ⟨y20,hy20⟩:∃ y_:List Int,y_=(y16 ++ (l0_3.take (x5_6:Int).toNat)):=⟨_,rfl⟩
      replace H:(some y20)=some r:=yh_ hy20 H
      have Ny20:=am_ hy20
      clear hy20
      obtain rfl:=Option.some.inj H
      go_wp2_with (first|((with_reducible refine gd_ 35 ?_);refine rl_ (Kd.int .u8) 5 35 ([]:List Int) [] ?_;intro v17 w36 ho37 hb hg_ hnew_;clear hg_ hnew_;(first|rw [← Ny16.out] at ho37|(simp only [Int.reduceToNat] at ho37;rw [← Ny16.out] at ho37));have HO18:=rlo_ ho37 HB;replace BK1:=kl_ BK1 hb;replace HB:=ss_ HB hb;clear hb ho37;have hz38:=cz5_ BK1;obtain ⟨i039,hi039,_,hsz39,_⟩:=info_parts info5;obtain ⟨hcut39,hA39,hC39⟩:=print_take_of (P:=Tryz.prog) (Value.int .u8) 0 27 5 .i64 Tryz.underlying27 hi039 hsz39 A0_3 c0_3 l0_3 x5_6 (od_) (od_) HC0_3.out;have HR19:=am_ (Kd.C_of_reads (h1:=fun _=>rfl) (hA39 _ (Kd.reads_of_C HR0_3.out)));have HC19:=am_ hC39;clear hA39 hC39 hi039 hsz39)|((with_reducible refine gate_builtin (b:=.append) (xs:=#[.tmp 35,.tmp 39]) rfl ?_);at_builtin;refine Kd.R_append_rows (Kd.int .u8) (w0:=w) w.heap.size rfl (.tmp 35) (.tmp 39) 27 5 (.int .u8 0) 1 rfl Tryz.underlying27 info5 rfl (by decide) (by omega) v17 y16 (l0_3.take (x5_6:Int).toNat) _ _ _ (fun _=>True) (fun _=>False) rfl rfl ?aO ?aR (fun _ _ h=>h) (fun _ h=>h.elim) ?aF ?aB ?aS ?aL ?_;(case aR=>first|(have hl_:(l0_3.take (x5_6:Int).toNat).length=x5_6.toNat:=(by rw [List.length_take];have h_:(x5_6:Int)≤(l0_3.length:Int):=od_;omega);have hq_:=(Kd.C_below HR19.out HB.out);generalize (l0_3.take (x5_6:Int).toNat).length=m_ at hq_ hl_;subst hl_;exact hq_)|(rw [← show (l0_3.take (x5_6:Int).toNat).length=x5_6.toNat from (by rw [List.length_take];have h_:(x5_6:Int)≤(l0_3.length:Int):=od_;omega)];exact cb_ HR19 HB)|(exact cb_ HR19 HB));(case aB=>exact (bw_ HB));(case aF=>exact (fun _ _=>trivial));(case aO=>exact (kr_ HO18.out));(case aS=>exact (sz_ HB));(case aL=>have:=LMc35.out;have hlx_:=(show (l0_3.take (x5_6:Int).toNat).length=x5_6.toNat from (by rw [List.length_take];have h_:(x5_6:Int)≤(l0_3.length:Int):=od_;omega));omega);intro v21 w40 ho hb hg hat;rw [← Ny20.out] at ho;replace BK1:=kg_ BK1 HO18 hg;replace HB:=am_ hb;have HO22:=am_ ho;clear HO18;clear ho hb hg hat))
      go_ret
      exact ⟨_,e2_,kr_ HO22.out,bw_ HB⟩
def spec_l14Crash.f (k:Nat) (a0_0:Int) (l0_1:List ByteArray) (a0_2:Int) (a0_3:ByteArray) (l0_4:List Int) (a0_5:Int) (a0_6:Int) (a0_7:ByteArray) (l1:List (S37)) (a2:Int):Option (Int × List ByteArray × Int × ByteArray × List Int × Int × Int × ByteArray × Int):=(spec_FallStore.f k l0_1 a0_2 a0_3 l0_4 a0_5 a2).bind fun t3=>((spec_OpenStore.f k l1 t3).bind fun bt6=>(some (a0_0,bt6.1,bt6.2.1,bt6.2.2.1,bt6.2.2.2.1,bt6.2.2.2.2.1,bt6.2.1,bt6.2.2.1,bt6.2.2.2.2.2)))
theorem spec_l14Crash.calls (k:Nat) (a0_0:Int) (A0_1:Option Addr) (c0_1:Nat) (l0_1:List ByteArray) (a0_2:Int) (a0_3:ByteArray) (A0_4:Option Addr) (c0_4:Nat) (l0_4:List Int) (a0_5:Int) (a0_6:Int) (a0_7:ByteArray) (A1:Option Addr) (c1:Nat) (l1:List (S37)) (a2:Int) (r1:Int) (r2:List ByteArray) (r3:Int) (r4:ByteArray) (r5:List Int) (r6:Int) (r7:Int) (r8:ByteArray) (r9:Int) (w:World) (hr0_1:Kd.C Kd.string w A0_1 l0_1.length l0_1) (hc0_1:l0_1.length≤c0_1) (hr0_4:Kd.C (Kd.int .u8) w A0_4 l0_4.length l0_4) (hc0_4:l0_4.length≤c0_4) (hr1:Kd.C k37 w A1 l1.length l1) (hc1:l1.length≤c1) (h:spec_l14Crash.f k a0_0 l0_1 a0_2 a0_3 l0_4 a0_5 a0_6 a0_7 l1 a2=some (r1,r2,r3,r4,r5,r6,r7,r8,r9)) :
  Calls Tryz.prog 57 #[.agg #[.int .i64 a0_0,.slice A0_1 l0_1.length c0_1,.int .i64 a0_2,.string a0_3,.slice A0_4 l0_4.length c0_4,.int .i64 a0_5,.int .i64 a0_6,.string a0_7],.slice A1 l1.length c1,.int .i64 a2] w fun e w'=>∃ v1_ v4_:Value,e = .returned (.tuple #[.agg #[.int .i64 r1,v1_,.int .i64 r3,.string r4,v4_,.int .i64 r6,.int .i64 r7,.string r8],.int .i64 r9])∧Kd.R Kd.string 9 w' w.heap.size (fun _=>True) v1_ r2∧Kd.R (Kd.int .u8) 5 w' w.heap.size (fun _=>True) v4_ r5∧Below w.heap.size w w':=by
 have hu43:=Tryz.underlying43
 have hu41:=Tryz.underlying41
 have hu37:=Tryz.underlying37
 have HR0_1:=am_ hr0_1
 have HC0_1:=am_ hc0_1
 clear hr0_1 hc0_1
 have HR0_4:=am_ hr0_4
 have HC0_4:=am_ hc0_4
 clear hr0_4 hc0_4
 have HR1:=am_ hr1
 have HC1:=am_ hc1
 clear hr1 hc1
 have HB:=h0_ w
 have H:((spec_FallStore.f k l0_1 a0_2 a0_3 l0_4 a0_5 a2).bind fun t3=>((spec_OpenStore.f k l1 t3).bind fun bt6=>(some (a0_0,bt6.1,bt6.2.1,bt6.2.2.1,bt6.2.2.2.1,bt6.2.2.2.2.1,bt6.2.1,bt6.2.2.1,bt6.2.2.2.2.2))))=some (r1,r2,r3,r4,r5,r6,r7,r8,r9):=h
 clear h
 replace H:=bi_ H;obtain ⟨t3,A4,H⟩:=H
 replace H:=bi_ H;obtain ⟨⟨t6,t9,t10,t11,t14,t15⟩,A5,H⟩:=H
 dsimp only at H
 simp only [Option.some.injEq,Prod.mk.injEq] at H
 obtain ⟨rfl,rfl,rfl,rfl,rfl,rfl,rfl,rfl,rfl⟩:=H
 go_enter Tryz.func57,Tryz.ntmps57
 go_wp2_with (first|((with_reducible refine gd_ 3 ?_);refine bx_ 3 43 #[.int .i64 a0_0,.slice A0_1 l0_1.length c0_1,.int .i64 a0_2,.string a0_3,.slice A0_4 l0_4.length c0_4,.int .i64 a0_5,.int .i64 a0_6,.string a0_7] (hx_ HB ?_);clear HB;intro gb1 w6 BK1 GW1 HB;have GE1:=GW1)|((with_reducible refine gd_ 6 ?_);refine x43_ 6 ?_;intro gb2 hg w7 hbox hb;have BK2:=am_ hbox;have GW2:=gg_ hg HB;have GE2:=GW2;replace HB:=ss_ HB hb;have NB1_2:=nla_ hg BK1;have NB2_1:=nga_ hg BK1;replace BK1:=kl_ BK1 hb;clear hb hbox hg;have hnb8:=NB1_2.out;have hnc8:=NB2_1.out;have hcz9:=cz8_ BK1)|((with_reducible refine gq_ 95 15 ?_);refine gc_ 15 Tryz.func95 (spec_FallStore.calls k _ _ l0_1 a0_2 a0_3 _ _ l0_4 a0_5 a2 t3 _ (cb_ HR0_1 HB) HC0_1.out (cb_ HR0_4 HB) HC0_4.out A4.out) ?_;rintro e w10 ⟨v4,rfl,ho0,hb⟩;refine ⟨_,rfl,?_⟩;have HO5:=rlo_ ho0 HB;replace BK1:=kl_ BK1 hb;replace BK2:=kl_ BK2 hb;replace HB:=ss_ HB hb;clear hb ho0;obtain ⟨Ao11,co11,eo11⟩:=Kd.R_slice HO5.out;subst eo11)|((with_reducible refine gq_ 94 16 ?_);refine gc_ 16 Tryz.func94 (spec_OpenStore.calls k _ _ l1 _ _ t3 t6 t9 t10 t11 t14 t15 _ (cb_ HR1 HB) HC1.out (ch_ HO5) (cl_ HO5) A5.out) ?_;rintro e w12 ⟨v7,v12,rfl,ho0,ho1,hb⟩;refine ⟨_,rfl,?_⟩;have HO8:=rlo_ ho0 HB;have HO13:=am_ (Kd.R_lower (Kd.R_new' ho1 (lt_ HO5)) (sz_ HB));replace HO5:=re_ HO5 ho1 hb;replace BK1:=kl_ BK1 hb;replace BK2:=kl_ BK2 hb;replace HB:=ss_ HB hb;clear hb ho0 ho1)|((with_reducible refine gd_ 8 ?_);refine x41_ 8 ?_;intro gb16 hg w13 hbox hb;replace HO5:=rb_ HO5 hb;replace HO8:=rb_ HO8 hb;replace HO13:=rb_ HO13 hb;have BK16:=am_ hbox;have GW16:=gg_ hg HB;have GE16:=GW16;replace HB:=ss_ HB hb;have NB1_16:=nla_ hg BK1;have NB16_1:=nga_ hg BK1;replace BK1:=kl_ BK1 hb;have NB2_16:=nla_ hg BK2;have NB16_2:=nga_ hg BK2;replace BK2:=kl_ BK2 hb;clear hb hbox hg;obtain ⟨Ao14,co14,eo14⟩:=Kd.R_slice HO8.out;subst eo14;have hnb15:=NB16_1.out;have hnc15:=NB1_16.out;have hnb16:=NB16_2.out;have hnc16:=NB2_16.out;have hz17:=cz5_ BK16;obtain ⟨Ao18,co18,eo18⟩:=Kd.R_slice HO13.out;subst eo18;have hcz19:=cz8_ BK1;have hcz20:=cz8_ BK2))
 refine bodyPost_ret (rct_ gb2 43 #[.int .i64 a0_0,.slice Ao14 t6.length co14,.int .i64 t9,.string t10,.slice Ao18 t11.length co18,.int .i64 t14,.int .i64 t9,.string t10] BK2 Tryz.underlying43) rfl ?_
 exact ⟨_,_,e2_,kfm2_ HO8 BK16 BK2,kfm2_ HO13 BK16 BK2,bw_ HB⟩
def spec_CrashMirror.f (k:Nat) (a0_0:Int) (l0_1:List ByteArray) (a0_2:Int) (a0_3:ByteArray) (l0_4:List Int) (a0_5:Int) (a0_6:Int) (a0_7:ByteArray) (l1:List (S37)) (a2:Int):Option (Int × List ByteArray × Int × ByteArray × List Int × Int × Int × ByteArray × Int):=(spec_MirrorOk.f k a0_0 l0_1 a0_2 a0_3 l0_4 a0_5 a0_6 a0_7 l1).bind fun t3=>(if t3=true then ((spec_l14Crash.f k a0_0 l0_1 a0_2 a0_3 l0_4 a0_5 a0_6 a0_7 l1 a2).bind fun bt4=>(some (bt4.1,bt4.2.1,bt4.2.2.1,bt4.2.2.2.1,bt4.2.2.2.2.1,bt4.2.2.2.2.2.1,bt4.2.2.2.2.2.2.1,bt4.2.2.2.2.2.2.2.1,bt4.2.2.2.2.2.2.2.2))) else ((spec_l14Copy.f a0_0 l0_1 a0_2 a0_3 l0_4 a0_5 a0_6 a0_7).bind fun bt17=>(some (bt17.1,bt17.2.1,bt17.2.2.1,bt17.2.2.2.1,bt17.2.2.2.2.1,bt17.2.2.2.2.2.1,bt17.2.2.2.2.2.2.1,bt17.2.2.2.2.2.2.2,(-1)))))
theorem spec_CrashMirror.calls (k:Nat) (a0_0:Int) (A0_1:Option Addr) (c0_1:Nat) (l0_1:List ByteArray) (a0_2:Int) (a0_3:ByteArray) (A0_4:Option Addr) (c0_4:Nat) (l0_4:List Int) (a0_5:Int) (a0_6:Int) (a0_7:ByteArray) (A1:Option Addr) (c1:Nat) (l1:List (S37)) (a2:Int) (r1:Int) (r2:List ByteArray) (r3:Int) (r4:ByteArray) (r5:List Int) (r6:Int) (r7:Int) (r8:ByteArray) (r9:Int) (w:World) (hr0_1:Kd.C Kd.string w A0_1 l0_1.length l0_1) (hc0_1:l0_1.length≤c0_1) (hr0_4:Kd.C (Kd.int .u8) w A0_4 l0_4.length l0_4) (hc0_4:l0_4.length≤c0_4) (hr1:Kd.C k37 w A1 l1.length l1) (hc1:l1.length≤c1) (h:spec_CrashMirror.f k a0_0 l0_1 a0_2 a0_3 l0_4 a0_5 a0_6 a0_7 l1 a2=some (r1,r2,r3,r4,r5,r6,r7,r8,r9)) :
  Calls Tryz.prog 25 #[.agg #[.int .i64 a0_0,.slice A0_1 l0_1.length c0_1,.int .i64 a0_2,.string a0_3,.slice A0_4 l0_4.length c0_4,.int .i64 a0_5,.int .i64 a0_6,.string a0_7],.slice A1 l1.length c1,.int .i64 a2] w fun e w'=>∃ v1_ v4_:Value,e = .returned (.tuple #[.agg #[.int .i64 r1,v1_,.int .i64 r3,.string r4,v4_,.int .i64 r6,.int .i64 r7,.string r8],.int .i64 r9])∧Kd.R Kd.string 9 w' w.heap.size (fun _=>True) v1_ r2∧Kd.R (Kd.int .u8) 5 w' w.heap.size (fun _=>True) v4_ r5∧Below w.heap.size w w':=by
 have hu43:=Tryz.underlying43
 have HR0_1:=am_ hr0_1
 have HC0_1:=am_ hc0_1
 clear hr0_1 hc0_1
 have HR0_4:=am_ hr0_4
 have HC0_4:=am_ hc0_4
 clear hr0_4 hc0_4
 have HR1:=am_ hr1
 have HC1:=am_ hc1
 clear hr1 hc1
 have HB:=h0_ w
 have H:((spec_MirrorOk.f k a0_0 l0_1 a0_2 a0_3 l0_4 a0_5 a0_6 a0_7 l1).bind fun t3=>(if t3=true then ((spec_l14Crash.f k a0_0 l0_1 a0_2 a0_3 l0_4 a0_5 a0_6 a0_7 l1 a2).bind fun bt4=>(some (bt4.1,bt4.2.1,bt4.2.2.1,bt4.2.2.2.1,bt4.2.2.2.2.1,bt4.2.2.2.2.2.1,bt4.2.2.2.2.2.2.1,bt4.2.2.2.2.2.2.2.1,bt4.2.2.2.2.2.2.2.2))) else ((spec_l14Copy.f a0_0 l0_1 a0_2 a0_3 l0_4 a0_5 a0_6 a0_7).bind fun bt17=>(some (bt17.1,bt17.2.1,bt17.2.2.1,bt17.2.2.2.1,bt17.2.2.2.2.1,bt17.2.2.2.2.2.1,bt17.2.2.2.2.2.2.1,bt17.2.2.2.2.2.2.2,(-1))))))=some (r1,r2,r3,r4,r5,r6,r7,r8,r9):=h
 clear h
 replace H:=bi_ H;obtain ⟨t3,A4,H⟩:=H
 replace H:=itb_ H;obtain ⟨rfl,H⟩|⟨rfl,H⟩:=H
 ·replace H:=bi_ H;obtain ⟨⟨t4,t5,t8,t9,t10,t13,t14,t15,t16⟩,A6,H⟩:=H
  dsimp only at H
  simp only [Option.some.injEq,Prod.mk.injEq] at H
  obtain ⟨rfl,rfl,rfl,rfl,rfl,rfl,rfl,rfl,rfl⟩:=H
  go_enter Tryz.func25,Tryz.ntmps25
  go_wp2_with (first|((with_reducible refine gd_ 3 ?_);refine bx_ 3 43 #[.int .i64 a0_0,.slice A0_1 l0_1.length c0_1,.int .i64 a0_2,.string a0_3,.slice A0_4 l0_4.length c0_4,.int .i64 a0_5,.int .i64 a0_6,.string a0_7] (hx_ HB ?_);clear HB;intro gb1 w7 BK1 GW1 HB;have GE1:=GW1)|((with_reducible refine gd_ 6 ?_);refine x43_ 6 ?_;intro gb2 hg w8 hbox hb;have BK2:=am_ hbox;have GW2:=gg_ hg HB;have GE2:=GW2;replace HB:=ss_ HB hb;have NB1_2:=nla_ hg BK1;have NB2_1:=nga_ hg BK1;replace BK1:=kl_ BK1 hb;clear hb hbox hg;have hnb9:=NB1_2.out;have hnc9:=NB2_1.out;have hcz10:=cz8_ BK1)|((with_reducible refine gq_ 39 10 ?_);refine gc_ 10 Tryz.func39 (spec_MirrorOk.calls k a0_0 _ _ l0_1 a0_2 a0_3 _ _ l0_4 a0_5 a0_6 a0_7 _ _ l1 true _ (cb_ HR0_1 HB) HC0_1.out (cb_ HR0_4 HB) HC0_4.out (cb_ HR1 HB) HC1.out A4.out) ?_;rintro e w11 ⟨rfl,hb⟩;refine ⟨_,rfl,?_⟩;replace BK1:=kl_ BK1 hb;replace BK2:=kl_ BK2 hb;replace HB:=ss_ HB hb;clear hb;have hcz12:=cz8_ BK1)|((with_reducible refine gq_ 57 17 ?_);refine gc_ 17 Tryz.func57 (spec_l14Crash.calls k a0_0 _ _ l0_1 a0_2 a0_3 _ _ l0_4 a0_5 a0_6 a0_7 _ _ l1 a2 t4 t5 t8 t9 t10 t13 t14 t15 t16 _ (cb_ HR0_1 HB) HC0_1.out (cb_ HR0_4 HB) HC0_4.out (cb_ HR1 HB) HC1.out A6.out) ?_;rintro e w13 ⟨v6,v11,rfl,ho0,ho1,hb⟩;refine ⟨_,rfl,?_⟩;have HO7:=rlo_ ho0 HB;have HO12:=rlo_ ho1 HB;replace BK1:=kl_ BK1 hb;replace BK2:=kl_ BK2 hb;replace HB:=ss_ HB hb;clear hb ho0 ho1;have hcz14:=cz8_ BK2;obtain ⟨Ao15,co15,eo15⟩:=Kd.R_slice HO7.out;subst eo15;obtain ⟨Ao16,co16,eo16⟩:=Kd.R_slice HO12.out;subst eo16))
  refine bodyPost_ret (rct_ gb2 43 #[.int .i64 t4,.slice Ao15 t5.length co15,.int .i64 t8,.string t9,.slice Ao16 t10.length co16,.int .i64 t13,.int .i64 t14,.string t15] BK2 Tryz.underlying43) rfl ?_
  exact ⟨_,_,e2_,kfm_ HO7 BK2,kfm_ HO12 BK2,bw_ HB⟩
 ·replace H:=bi_ H;obtain ⟨⟨t17,t18,t21,t22,t23,t26,t27,t28⟩,A17,H⟩:=H
  dsimp only at H
  simp only [Option.some.injEq,Prod.mk.injEq] at H
  obtain ⟨rfl,rfl,rfl,rfl,rfl,rfl,rfl,rfl,rfl⟩:=H
  go_enter Tryz.func25,Tryz.ntmps25
  go_wp2_with (first|((with_reducible refine gd_ 3 ?_);refine bx_ 3 43 #[.int .i64 a0_0,.slice A0_1 l0_1.length c0_1,.int .i64 a0_2,.string a0_3,.slice A0_4 l0_4.length c0_4,.int .i64 a0_5,.int .i64 a0_6,.string a0_7] (hx_ HB ?_);clear HB;intro gb1 w18 BK1 GW1 HB;have GE1:=GW1)|((with_reducible refine gd_ 6 ?_);refine x43_ 6 ?_;intro gb2 hg w19 hbox hb;have BK2:=am_ hbox;have GW2:=gg_ hg HB;have GE2:=GW2;replace HB:=ss_ HB hb;have NB1_2:=nla_ hg BK1;have NB2_1:=nga_ hg BK1;replace BK1:=kl_ BK1 hb;clear hb hbox hg;have hnb20:=NB1_2.out;have hnc20:=NB2_1.out;have hcz21:=cz8_ BK1)|((with_reducible refine gq_ 39 10 ?_);refine gc_ 10 Tryz.func39 (spec_MirrorOk.calls k a0_0 _ _ l0_1 a0_2 a0_3 _ _ l0_4 a0_5 a0_6 a0_7 _ _ l1 false _ (cb_ HR0_1 HB) HC0_1.out (cb_ HR0_4 HB) HC0_4.out (cb_ HR1 HB) HC1.out A4.out) ?_;rintro e w22 ⟨rfl,hb⟩;refine ⟨_,rfl,?_⟩;replace BK1:=kl_ BK1 hb;replace BK2:=kl_ BK2 hb;replace HB:=ss_ HB hb;clear hb;have hcz23:=cz8_ BK1)|((with_reducible refine gq_ 56 13 ?_);refine gc_ 13 Tryz.func56 (spec_l14Copy.calls a0_0 _ _ l0_1 a0_2 a0_3 _ _ l0_4 a0_5 a0_6 a0_7 t17 t18 t21 t22 t23 t26 t27 t28 _ (cb_ HR0_1 HB) HC0_1.out (cb_ HR0_4 HB) HC0_4.out A17.out) ?_;rintro e w24 ⟨v19,v24,rfl,ho0,ho1,hb⟩;refine ⟨_,rfl,?_⟩;have HO20:=rlo_ ho0 HB;have HO25:=rlo_ ho1 HB;replace BK1:=kl_ BK1 hb;replace BK2:=kl_ BK2 hb;replace HB:=ss_ HB hb;clear hb ho0 ho1;have hcz25:=cz8_ BK2;obtain ⟨Ao26,co26,eo26⟩:=Kd.R_slice HO20.out;subst eo26;obtain ⟨Ao27,co27,eo27⟩:=Kd.R_slice HO25.out;subst eo27))
  refine bodyPost_ret (rct_ gb2 43 #[.int .i64 t17,.slice Ao26 t18.length co26,.int .i64 t21,.string t22,.slice Ao27 t23.length co27,.int .i64 t26,.int .i64 t27,.string t28] BK2 Tryz.underlying43) rfl ?_
  exact ⟨_,_,e2_,kfm_ HO20 BK2,kfm_ HO25 BK2,bw_ HB⟩
def laws_sameTexts.l0:Nat->List ByteArray->List ByteArray->Int->Option (Bool)
 | 0,_,_,_=>none
 | k+1,x0,x1,x5=>if x5 < (x0.length:Int) then (if 0≤x5 then (if x5 < (x1.length:Int) then (if (rdOf ByteArray.empty x0 x5).toList=(rdOf ByteArray.empty x1 x5).toList then (laws_sameTexts.l0 k x0 x1 (wrap64 (x5+1))) else (some false)) else (none)) else (none)) else (some true)
def laws_sameTexts.f (k:Nat) (l0:List ByteArray) (l1:List ByteArray):Option (Bool):=if (l0.length:Int)=(l1.length:Int) then (laws_sameTexts.l0 k l0 l1 0) else (some false)
theorem laws_sameTexts.calls (k:Nat) (A0:Option Addr) (c0:Nat) (l0:List ByteArray) (A1:Option Addr) (c1:Nat) (l1:List ByteArray) (r:Bool) (w:World) (hr0:Kd.C Kd.string w A0 l0.length l0) (hc0:l0.length≤c0) (hr1:Kd.C Kd.string w A1 l1.length l1) (hc1:l1.length≤c1) (h:laws_sameTexts.f k l0 l1=some r) :
  Calls Tryz.prog 28 #[.slice A0 l0.length c0,.slice A1 l1.length c1] w fun e w'=>e = .returned (.bool r)∧Drawn0 w w':=by
 have HR0:=am_ hr0
 have HC0:=am_ hc0
 clear hr0 hc0
 have HR1:=am_ hr1
 have HC1:=am_ hc1
 clear hr1 hc1
 have H:(if (l0.length:Int)=(l1.length:Int) then (laws_sameTexts.l0 k l0 l1 0) else (some false))=some r:=h
 clear h
 replace H:=it_ H;obtain ⟨c3,H⟩|⟨c3,H⟩:=H
 ·have c3b0:((l0.length:Int) == (l1.length:Int))=true:=beq_iff_eq.mpr c3
  have c3b1:((l0.length:Int) != (l1.length:Int))=false:=bne_eq_false_iff_eq.mpr c3
  have c3b2:(l0.length == l1.length)=true:=by first|simpa using c3|(simp at c3 ⊢;omega)
  clear c3
  have H':=am_ H
  clear H
  go_enter Tryz.func28,Tryz.ntmps28
  go_wp2
  repeat (go_quiet (fail);try go_wp2)
  go_loopg [5] k (fun kq v5 w'=>∃ (x5_1:Int),v5 = .int .i64 x5_1∧Aside0 (laws_sameTexts.l0 kq l0 l1 x5_1=some r)∧Aside0 (kq≤k)∧Drawn0 w w')
  case atStart => exact ⟨(0),e1_,H',⟨Nat.le_refl _⟩,dw_⟩
  case round =>
   clear H'
   try clear c3
   try clear c3b0
   try clear c3b1
   try clear c3b2
   obtain ⟨x5_1,rfl,HA,HK1,⟨m1,rfl⟩⟩:=hrel
   cases gk with
   | zero=>exact absurd HA.out (by simp [laws_sameTexts.l0])
   | succ k1 =>
    have H:=HA.out
    clear HA
    simp only [laws_sameTexts.l0] at H
    replace H:=itd_ H;obtain ⟨c4b0,H⟩|⟨c4b0,H⟩:=H
    ·replace H:=ipd_ H;obtain ⟨c5b0,H⟩:=H
     replace H:=ipd_ H;obtain ⟨c6b0,H⟩:=H
     replace H:=it_ H;obtain ⟨c7,H⟩|⟨c7,H⟩:=H
     ·have c7b0:((rdOf ByteArray.empty l0 x5_1).toList == (rdOf ByteArray.empty l1 x5_1).toList)=true:=beq_iff_eq.mpr c7
      have c7b1:((rdOf ByteArray.empty l0 x5_1).toList != (rdOf ByteArray.empty l1 x5_1).toList)=false:=bne_eq_false_iff_eq.mpr c7
      clear c7
      have H':=am_ H
      clear H
      have p601:0≤(x5_1:Int):=od_
      have q1:x5_1 < (l0.length:Int):=od_
      obtain ⟨ad1,e601,hx1_0⟩:=Kd.at_string HR0.out x5_1 p601 q1
      cases e601
      replace p601:=eq_true p601
      replace q1:=eq_true q1
      have p602:0≤(x5_1:Int):=od_
      have q602:x5_1 < (l1.length:Int):=od_
      obtain ⟨ad2,e602,hx2_0⟩:=Kd.at_string HR1.out x5_1 p602 q602
      cases e602
      replace p602:=eq_true p602
      replace q602:=eq_true q602
      go_wp2
      repeat (go_quiet (fail);try go_wp2)
      go_roundg k1
      case measure => have:=HK1.out;omega
      case rel => exact ⟨(wrap64 (x5_1+1)),e1_,H',⟨by have:=HK1.out;omega⟩,dw_⟩
     ·have c7b0:((rdOf ByteArray.empty l0 x5_1).toList == (rdOf ByteArray.empty l1 x5_1).toList)=false:=beq_eq_false_iff_ne.mpr c7
      have c7b1:((rdOf ByteArray.empty l0 x5_1).toList != (rdOf ByteArray.empty l1 x5_1).toList)=true:=bne_iff_ne.mpr c7
      obtain rfl:=Option.some.inj H
      have p601:0≤(x5_1:Int):=od_
      have q1:x5_1 < (l0.length:Int):=od_
      obtain ⟨ad1,e601,hx1_0⟩:=Kd.at_string HR0.out x5_1 p601 q1
      cases e601
      replace p601:=eq_true p601
      replace q1:=eq_true q1
      have p602:0≤(x5_1:Int):=od_
      have q602:x5_1 < (l1.length:Int):=od_
      obtain ⟨ad2,e602,hx2_0⟩:=Kd.at_string HR1.out x5_1 p602 q602
      cases e602
      replace p602:=eq_true p602
      replace q602:=eq_true q602
      go_wp2
      repeat (go_quiet (fail);try go_wp2)
      go_ret
      exact ⟨e1_,dw_⟩
    ·obtain rfl:=Option.some.inj H
     go_wp2
     repeat (go_quiet (fail);try go_wp2)
     go_ret
     exact ⟨e1_,dw_⟩
 ·have c3b0:((l0.length:Int) == (l1.length:Int))=false:=beq_eq_false_iff_ne.mpr c3
  have c3b1:((l0.length:Int) != (l1.length:Int))=true:=bne_iff_ne.mpr c3
  have c3b2:(l0.length == l1.length)=false:=by first|simpa using c3|(simp at c3 ⊢;omega)
  obtain rfl:=Option.some.inj H
  go_enter Tryz.func28,Tryz.ntmps28
  go_wp2
  repeat (go_quiet (fail);try go_wp2)
  go_ret
  exact ⟨e1_,dw_⟩
def laws_begins.f (k:Nat) (l0:List ByteArray) (l1:List ByteArray):Option (Bool):=if (l0.length:Int)≤(l1.length:Int) then (if 0≤(l0.length:Int) then ((laws_sameTexts.f k l0 (l1.take ((l0.length:Int):Int).toNat)).bind fun t602=>(some t602)) else (none)) else (some false)
theorem laws_begins.calls (k:Nat) (A0:Option Addr) (c0:Nat) (l0:List ByteArray) (A1:Option Addr) (c1:Nat) (l1:List ByteArray) (r:Bool) (w:World) (hr0:Kd.C Kd.string w A0 l0.length l0) (hc0:l0.length≤c0) (hr1:Kd.C Kd.string w A1 l1.length l1) (hc1:l1.length≤c1) (h:laws_begins.f k l0 l1=some r) :
  Calls Tryz.prog 30 #[.slice A0 l0.length c0,.slice A1 l1.length c1] w fun e w'=>e = .returned (.bool r)∧Drawn0 w w':=by
 have HR0:=am_ hr0
 have HC0:=am_ hc0
 clear hr0 hc0
 have HR1:=am_ hr1
 have HC1:=am_ hc1
 clear hr1 hc1
 have H:(if (l0.length:Int)≤(l1.length:Int) then (if 0≤(l0.length:Int) then ((laws_sameTexts.f k l0 (l1.take ((l0.length:Int):Int).toNat)).bind fun t602=>(some t602)) else (none)) else (some false))=some r:=h
 clear h
 replace H:=it_ H;obtain ⟨c3,H⟩|⟨c3,H⟩:=H
 ·have c3b0:=decide_eq_true c3
  have c3b1:decide (l0.length≤l1.length)=true:=decide_eq_true (Int.ofNat_le.mp c3)
  clear c3
  replace H:=ip_ H;obtain ⟨c4,H⟩:=H
  have c4b0:=eq_true c4
  have c4b1:=decide_eq_true c4
  clear c4
  have c5b0:=eq_true (od_:(l0.length:Int)≤(l1.length:Int))
  replace H:=bi_ H;obtain ⟨t602,A6,H⟩:=H
  obtain rfl:=Option.some.inj H
  obtain ⟨i07,hi07,_,hsz7,_⟩:=info_parts info9
  obtain ⟨hcut7,hA7,hC7⟩:=print_take_of (P:=Tryz.prog) Value.string (⟨#[]⟩:ByteArray) 22 9 .i64 Tryz.underlying22 hi07 hsz7 A1 c1 l1 (l0.length:Int) (od_) (od_) HC1.out
  have HR601:=am_ (Kd.C_of_reads (h1:=fun _=>rfl) (hA7 _ (Kd.reads_of_C HR1.out)))
  have HC601:=am_ hC7
  clear hA7 hC7 hi07 hsz7
  go_enter Tryz.func30,Tryz.ntmps30
  go_wp2_with (first|(go_at_call 28;(rw [show min l0.length l1.length=(l1.take ((l0.length:Int):Int).toNat).length from by rw [List.length_take,Int.toNat_natCast]]);(with_reducible refine (laws_sameTexts.calls k _ _ l0 _ _ (l1.take ((l0.length:Int):Int).toNat) t602 _ ?side1 ?side2 ?side3 ?side4 A6.out).mono ?_);(case side1=>exact cr_ HR0.out);(case side2=>exact HC0.out);(case side3=>exact cr_ HR601.out);(case side4=>exact HC601.out);rintro e w' ⟨rfl,⟨nd,rfl⟩⟩))
  go_ret
  exact ⟨e1_,dw_⟩
 ·have c3b0:=decide_eq_false c3
  have c3b1:decide (l0.length≤l1.length)=false:=decide_eq_false (fun h=>c3 (Int.ofNat_le.mpr h))
  clear c3
  obtain rfl:=Option.some.inj H
  go_enter Tryz.func30,Tryz.ntmps30
  go_wp2
  go_ret
  exact ⟨e1_,dw_⟩
def spec_DrawCrashMirror.f (k:Nat) (l0:List Int):Option (Int × List ByteArray × Int × ByteArray × List Int × Int × Int × ByteArray × (List (S37)) × Int):=(spec_l1New.f k l0).bind fun bt2=>((spec_l14Any.f k bt2.1 bt2.2.1 bt2.2.2).bind fun bt6=>((spec_l1Int.f bt2.1 bt6.2.2.2.2.2.2.2.2.2.2.1 bt6.2.2.2.2.2.2.2.2.2.2.2 (([0,1,60,1000,(-1)]:List Int))).bind fun bt30=>(some (bt6.1,bt6.2.1,bt6.2.2.1,bt6.2.2.2.1,bt6.2.2.2.2.1,bt6.2.2.2.2.2.1,bt6.2.2.2.2.2.2.1,bt6.2.2.2.2.2.2.2.1,bt6.2.2.2.2.2.2.2.2.1,bt30.1))))
def spec_DrawCrashMirror.T3:Bool × List (List Nat × List Nat):=(true,[([],[]),([],[]),([],[]),([],[]),([2,3],[2,3]),([0,4,0],[0]),([1,5,0,1,5],[1]),([4,6,0,1,2,3,4,5,6],[4])])
def spec_DrawCrashMirror.B3:List Nat:=[0,0,0,0,12,29,63,127]
theorem spec_DrawCrashMirror.tab3:rtab .any (opsOf Tryz.f23 3)=spec_DrawCrashMirror.T3:=by kernel_rfl
theorem spec_DrawCrashMirror.bits3:waitsOk spec_DrawCrashMirror.T3.2 spec_DrawCrashMirror.B3=true:=by kernel_rfl
theorem spec_DrawCrashMirror.calls (k:Nat) (A0:Option Addr) (c0:Nat) (l0:List Int) (r1:Int) (r2:List ByteArray) (r3:Int) (r4:ByteArray) (r5:List Int) (r6:Int) (r7:Int) (r8:ByteArray) (r9:List (S37)) (r10:Int) (w:World) (hr0:Kd.C (Kd.int .u8) w A0 l0.length l0) (hc0:l0.length≤c0) (h:spec_DrawCrashMirror.f k l0=some (r1,r2,r3,r4,r5,r6,r7,r8,r9,r10)) :
  Calls Tryz.prog 23 #[.slice A0 l0.length c0] w fun e w'=>∃ v1_ v4_ v8_:Value,e = .returned (.tuple #[.agg #[.int .i64 r1,v1_,.int .i64 r3,.string r4,v4_,.int .i64 r6,.int .i64 r7,.string r8],v8_,.int .i64 r10])∧Kd.R Kd.string 9 w' w.heap.size (fun _=>True) v1_ r2∧Kd.R (Kd.int .u8) 5 w' w.heap.size (fun _=>True) v4_ r5∧Kd.R k37 37 w' w.heap.size (fun _=>True) v8_ r9∧Below w.heap.size w w':=by
 have hu43:=Tryz.underlying43
 have HR0:=am_ hr0
 have HC0:=am_ hc0
 clear hr0 hc0
 have HB:=h0_ w
 have H:((spec_l1New.f k l0).bind fun bt2=>((spec_l14Any.f k bt2.1 bt2.2.1 bt2.2.2).bind fun bt6=>((spec_l1Int.f bt2.1 bt6.2.2.2.2.2.2.2.2.2.2.1 bt6.2.2.2.2.2.2.2.2.2.2.2 (([0,1,60,1000,(-1)]:List Int))).bind fun bt30=>(some (bt6.1,bt6.2.1,bt6.2.2.1,bt6.2.2.2.1,bt6.2.2.2.2.1,bt6.2.2.2.2.2.1,bt6.2.2.2.2.2.2.1,bt6.2.2.2.2.2.2.2.1,bt6.2.2.2.2.2.2.2.2.1,bt30.1)))))=some (r1,r2,r3,r4,r5,r6,r7,r8,r9,r10):=h
 clear h
 replace H:=bi_ H;obtain ⟨⟨t602,t3,t4⟩,A2,H⟩:=H
 dsimp only at H
 replace H:=bi_ H;obtain ⟨⟨t6,t7,t10,t11,t12,t15,t16,t17,t18,t21,t24,t25⟩,A3,H⟩:=H
 dsimp only at H
 obtain ⟨y27,hy27⟩:∃ y_:List Int,y_=(([0,1,60,1000,(-1)]:List Int)):=⟨_,rfl⟩
 replace H:((spec_l1Int.f t602 t24 t25 y27).bind fun bt30=>(some (t6,t7,t10,t11,t12,t15,t16,t17,t18,bt30.1)))=some (r1,r2,r3,r4,r5,r6,r7,r8,r9,r10):=yh_ hy27 H
 have Ny27:=am_ hy27
 clear hy27
 replace H:=bi_ H;obtain ⟨⟨t30,t31,t32⟩,A4,H⟩:=H
 dsimp only at H
 simp only [Option.some.injEq,Prod.mk.injEq] at H
 obtain ⟨rfl,rfl,rfl,rfl,rfl,rfl,rfl,rfl,rfl,rfl⟩:=H
 go_enter Tryz.func23,Tryz.ntmps23
 try go_wp2_with (first|((with_reducible refine gd_ 2 ?_);refine x43_ 2 (hx_ HB ?_);clear HB;intro gb1 w5 BK1 GW1 HB;have GE1:=GW1)|((with_reducible refine gq_ 51 10 ?_);refine gc_ 10 Tryz.func51 (spec_l1New.calls k _ _ l0 t602 t3 t4 w _ (bw_ HB) HR0.out HC0.out A2.out) ?_;rintro e w6 ⟨g5,rfl,hi,hb,hb2⟩;refine ⟨_,rfl,?_⟩;replace HB:=am_ hb;have HI5:=am_ hi;have NB5_1:=am_ (IsS105.ne_blk hi (blk_below (kb_ BK1.out) hb2) (by decide));have NB1_5:=am_ (Ne.symm (IsS105.ne_blk hi (blk_below (kb_ BK1.out) hb2) (by decide)));replace BK1:=am_ (blk_below (kb_ BK1.out) hb2);clear hb hb2 hi)|((with_reducible refine gq_ 52 13 ?_);refine gc_ 13 Tryz.func52 (spec_l14Any.calls k g5 t602 t3 t4 t6 t7 t10 t11 t12 t15 t16 t17 t18 t21 t24 t25 w _ (in105_ HI5) (bi105_ HB) A3.out) ?_;rintro e w7 ⟨v8,v13,v19,v22,rfl,ho0,ho1,ho2,ho3,hi,hb,hk⟩;refine ⟨_,rfl,?_⟩;replace BK1:=kbk_ hk (kb_ BK1.out) NB1_5;have HO9:=am_ (Kd.R_lower ho0 (below_size (bs2_ HB (IsS105.ge HI5.out) GE1.out)));have HO14:=am_ (Kd.R_lower ho1 (below_size (bs2_ HB (IsS105.ge HI5.out) GE1.out)));have HO20:=am_ (Kd.R_lower ho2 (below_size (bs2_ HB (IsS105.ge HI5.out) GE1.out)));have HO23:=am_ (Kd.R_lower ho3 (below_size (bs2_ HB (IsS105.ge HI5.out) GE1.out)));replace HB:=am_ hb;replace HI5:=am_ hi;clear hb hk hi ho0 ho1 ho2 ho3)|((with_reducible refine gd_ 6 ?_);refine x43_ 6 ?_;intro gb26 hg w8 hbox hb;replace HO9:=rb_ HO9 hb;replace HO14:=rb_ HO14 hb;replace HO20:=rb_ HO20 hb;replace HO23:=rb_ HO23 hb;have BK26:=am_ hbox;have GW26:=am_ (gz_ hg (below_size (bs2_ HB (IsS105.ge HI5.out) GE1.out)));have GE26:=am_ (gz_ hg (below_size (bs2_ HB (IsS105.ge HI5.out) GE1.out)));replace HB:=am_ (below_step (bs2_ HB (IsS105.ge HI5.out) GE1.out) hb);have NB1_26:=nla_ hg BK1;have NB26_1:=nga_ hg BK1;replace BK1:=kl_ BK1 hb;have NB5_26:=am_ ((by rw [hg];exact Nat.ne_of_lt (IsS105.lt (show IsS105 w _ g5 t602 t24 t25 from in105_ HI5)):g5 ≠ gb26));have NB26_5:=am_ ((by rw [hg];exact Nat.ne_of_gt (IsS105.lt (show IsS105 w _ g5 t602 t24 t25 from in105_ HI5)):gb26 ≠ g5));replace HI5:=am_ (IsS105.below (in105_ HI5) hb);clear hb hbox hg;have hnb9:=NB26_1.out;have hnc9:=NB1_26.out;have hnb10:=NB26_5.out;have hnc10:=NB5_26.out;have hcz11:=cz8_ BK26;obtain ⟨Ao12,co12,eo12⟩:=Kd.R_slice HO9.out;subst eo12;obtain ⟨Ao13,co13,eo13⟩:=Kd.R_slice HO14.out;subst eo13))
 obtain ⟨w14,hw_⟩:∃ w_:World,w_=((((((((w8.setCell ⟨gb26,0,none⟩ (.int .i64 t6)).setCell ⟨gb26,1,none⟩ (.slice Ao12 t7.length co12)).setCell ⟨gb26,2,none⟩ (.int .i64 t10)).setCell ⟨gb26,3,none⟩ (.string t11)).setCell ⟨gb26,4,none⟩ (.slice Ao13 t12.length co13)).setCell ⟨gb26,5,none⟩ (.int .i64 t15)).setCell ⟨gb26,6,none⟩ (.int .i64 t16)).setCell ⟨gb26,7,none⟩ (.string t17)):=⟨_,rfl⟩
 replace HO9:Aside0 (Kd.R Kd.string 9 w14 w.heap.size (fun k_=>some k_ ≠ (v22:Value).ownBlock) (.slice Ao12 t7.length co12) t7):=⟨by rw [hw_];exact kfm_ HO9 BK26⟩
 replace HO14:Aside0 (Kd.R (Kd.int .u8) 5 w14 w.heap.size (fun _=>True) (.slice Ao13 t12.length co13) t12):=⟨by rw [hw_];exact kfm_ HO14 BK26⟩
 replace HO20:Aside0 (Kd.R k37 37 w14 w.heap.size (fun _=>True) v19 t18):=⟨by rw [hw_];exact kfm_ HO20 BK26⟩
 replace HO23:Aside0 (Kd.R Kd.string 9 w14 w.heap.size (fun k_=>some k_ ≠ (.slice Ao12 t7.length co12:Value).ownBlock) v22 t21):=⟨by rw [hw_];exact kfm_ HO23 BK26⟩
 replace BK1:Aside0 (w14.heap[gb1]?=some (.cells #[.int .i64 0,.slice none 0 0,.int .i64 0,.string (⟨#[]⟩:ByteArray),.slice none 0 0,.int .i64 0,.int .i64 0,.string (⟨#[]⟩:ByteArray)] 43 (0,0))):=⟨by rw [hw_];exact kq_ BK1⟩
 replace BK26:Aside0 (w14.heap[gb26]?=some (.cells #[.int .i64 t6,.slice Ao12 t7.length co12,.int .i64 t10,.string t11,.slice Ao13 t12.length co13,.int .i64 t15,.int .i64 t16,.string t17] 43 (0,0))):=⟨by rw [hw_];exact kq_ BK26⟩
 replace HI5:Aside0 (IsS105 w w14 g5 t602 t24 t25):=⟨by rw [hw_];exact in105_ HI5⟩
 replace HB:Aside0 (Below w.heap.size w w14):=⟨by rw [hw_];exact bi105_ HB⟩
 rw [← hw_]
 clear hw_
 replace HO9:=am_ (Kd.R_drew HO9.out)
 replace HO14:=am_ (Kd.R_drew HO14.out)
 replace HO20:=am_ (Kd.R_drew HO20.out)
 replace BK1:=bd_ BK1
 replace BK26:=bd_ BK26
 replace HI5:=am_ (IsS105.drew HI5.out)
 replace HB:=hd_ HB
 refine sw_ 8 (fun w'=>w'.cell? ⟨gb26,0,none⟩=some (.int .i64 t6)∧w'.cell? ⟨gb26,1,none⟩=some (.slice Ao12 t7.length co12)∧w'.cell? ⟨gb26,2,none⟩=some (.int .i64 t10)∧w'.cell? ⟨gb26,3,none⟩=some (.string t11)∧w'.cell? ⟨gb26,4,none⟩=some (.slice Ao13 t12.length co13)∧w'.cell? ⟨gb26,5,none⟩=some (.int .i64 t15)∧w'.cell? ⟨gb26,6,none⟩=some (.int .i64 t16)∧w'.cell? ⟨gb26,7,none⟩=some (.string t17)) [] spec_DrawCrashMirror.tab3 spec_DrawCrashMirror.bits3 ⟨bc0_ BK26.out,bc1_ BK26.out,bc2_ BK26.out,bc3_ BK26.out,bc4_ BK26.out,bc5_ BK26.out,bc6_ BK26.out,bc7_ BK26.out⟩ (fun hHeld HT_ HW_=>?_)
 generalize w14.drew=w15 at HO9 HO14 HO20 HO23 BK1 BK26 HI5 HB hHeld ⊢
 refine pt_ 1 18 2 ?_
 refine pt_ 2 19 6 ?_
 refine tt_ 0 17 7 ?_
 refine oz_ 3 20 8 15 (fun K hK=>?_)
 refine Kd.R_lit_step (Kd.int .i64) _ 3 ?hg (N:=20) ?hd (xs:=([0,1,60,1000,(-1)]:List Int)) (inner:=[.int .i64 0,.int .i64 1,.int .i64 60,.int .i64 1000,.int .i64 (-1)]) (ok:=fun _=>True) (okp:=fun _=>True) ?hr ?hp (fun _ hk=>hk) trivial (Below.refl _ _) (Nat.le_refl _) (by simp) ?_;(case hd=>rfl);(case hg=>rfl);(case hr=>first|(go_simp;done)|(go_simp;rfl));(case hp=>exact (Reps.one (show Kd.M (Kd.int .i64) _ _ _ 0 [.int .i64 0] from rfl) (Reps.one (show Kd.M (Kd.int .i64) _ _ _ 1 [.int .i64 1] from rfl) (Reps.one (show Kd.M (Kd.int .i64) _ _ _ 60 [.int .i64 60] from rfl) (Reps.one (show Kd.M (Kd.int .i64) _ _ _ 1000 [.int .i64 1000] from rfl) (Reps.one (show Kd.M (Kd.int .i64) _ _ _ (-1) [.int .i64 (-1)] from rfl) (Reps.none _ _)))))))
 intro v28 w16 ho17 hb hg_ hnew_
 clear hg_ hnew_
 (first | rw [← Ny27.out] at ho17|(simp only [Int.reduceToNat] at ho17;rw [← Ny27.out] at ho17))
 replace HO9:=rb_ HO9 hb
 replace HO14:=rb_ HO14 hb
 replace HO20:=rb_ HO20 hb
 have HO29:=am_ (Kd.R_lower ho17 (below_size (bs3_ HB (IsS105.ge HI5.out) GE1.out GE26.out)))
 replace BK1:=kl_ BK1 hb
 replace BK26:=kl_ BK26 hb
 replace HB:=am_ (below_step (bs3_ HB (IsS105.ge HI5.out) GE1.out GE26.out) hb)
 replace HI5:=am_ (IsS105.below (in105_ HI5) hb)
 clear hb ho17
 obtain ⟨Ao18,co18,eo18⟩:=Kd.R_slice HO29.out
 subst eo18
 refine hK.out _ _ ⟨bc0_ BK26.out,bc1_ BK26.out,bc2_ BK26.out,bc3_ BK26.out,bc4_ BK26.out,bc5_ BK26.out,bc6_ BK26.out,bc7_ BK26.out⟩ (fun hHeld=>?_)
 clear hK K
 refine no_ 20 ?_
 refine oz_ 4 21 8 31 (fun K hK=>?_)
 refine gf_ Tryz.func53 (spec_l1Int.calls g5 t602 t24 t25 _ _ y27 t30 t31 t32 w _ (in105_ HI5) (bi105_ HB) (ch_ HO29) (cl_ HO29) (far_slice (IsS105.own_ne HI5.out HO29.out (by decide))) A4.out) ?_
 rintro e w19 ⟨rfl,hi,hb,hk⟩
 refine ⟨_,rfl,?_⟩
 replace BK1:=kbk_ hk (kb_ BK1.out) NB1_5
 have i_:=iw105_ hk (show IsS105 w _ g5 t602 t24 t25 from in105_ HI5)
 replace HO9:=rat105_ i_ (kr_ HO9.out) hk
 replace HO14:=rat105_ i_ (kr_ HO14.out) hk
 replace HO20:=rat105_ i_ (kr_ HO20.out) hk
 replace BK26:=kbk_ hk (kb_ BK26.out) NB26_5
 clear i_
 replace HB:=am_ hb
 replace HI5:=am_ hi
 clear hb hk hi
 refine hK.out _ _ ⟨bc0_ BK26.out,bc1_ BK26.out,bc2_ BK26.out,bc3_ BK26.out,bc4_ BK26.out,bc5_ BK26.out,bc6_ BK26.out,bc7_ BK26.out⟩ (fun hHeld=>?_)
 clear hK K
 refine no_ 21 ?_
 refine one_ (i:=5) (N:=none) (lz_ 8 63) rfl rfl (one_of HT_.out (by kernel_rfl)) (by decide) (fun K hK=>?_)
 have hs20:=bc0_ BK1.out
 have hfs20:=blk_frozen BK1.out 0
 have hns20_1:=NB26_1.out
 have hms20_1:=NB1_26.out
 have hs21:=bc1_ BK1.out
 have hfs21:=blk_frozen BK1.out 1
 have hns21_1:=NB26_1.out
 have hms21_1:=NB1_26.out
 have hs22:=bc2_ BK1.out
 have hfs22:=blk_frozen BK1.out 2
 have hns22_1:=NB26_1.out
 have hms22_1:=NB1_26.out
 have hs23:=bc3_ BK1.out
 have hfs23:=blk_frozen BK1.out 3
 have hns23_1:=NB26_1.out
 have hms23_1:=NB1_26.out
 have hs24:=bc4_ BK1.out
 have hfs24:=blk_frozen BK1.out 4
 have hns24_1:=NB26_1.out
 have hms24_1:=NB1_26.out
 have hs25:=bc5_ BK1.out
 have hfs25:=blk_frozen BK1.out 5
 have hns25_1:=NB26_1.out
 have hms25_1:=NB1_26.out
 have hs26:=bc6_ BK1.out
 have hfs26:=blk_frozen BK1.out 6
 have hns26_1:=NB26_1.out
 have hms26_1:=NB1_26.out
 have hs27:=bc7_ BK1.out
 have hfs27:=blk_frozen BK1.out 7
 have hns27_1:=NB26_1.out
 have hms27_1:=NB1_26.out
 refine skip_ (w1:=?_) (by rfl) rfl ?_ ?_
 rotate_left
 ·go_simp
  rfl
 refine hK.out _ _ ⟨(cf_ NB26_1 hHeld.1),(cf_ NB26_1 hHeld.2.1),(cf_ NB26_1 hHeld.2.2.1),(cf_ NB26_1 hHeld.2.2.2.1),(cf_ NB26_1 hHeld.2.2.2.2.1),(cf_ NB26_1 hHeld.2.2.2.2.2.1),(cf_ NB26_1 hHeld.2.2.2.2.2.2.1),(cf_ NB26_1 hHeld.2.2.2.2.2.2.2)⟩ (fun hHeld=>?_)
 clear hK K
 refine pt_ 6 3 127 ?_
 refine pt_ 7 4 255 ?_
 refine dn_ ?_
 try go_wp2
 refine bodyPost_ret (rctt_ gb1 43 #[.int .i64 t6,.slice Ao12 t7.length co12,.int .i64 t10,.string t11,.slice Ao13 t12.length co13,.int .i64 t15,.int .i64 t16,.string t17] BK1 Tryz.underlying43) rfl ?_
 exact ⟨_,_,_,e2_,kfm_ HO9 BK1,kfm_ HO14 BK1,kfm_ HO20 BK1,bi105_ HB⟩
def laws_big.f (l0:List Int):Option (Bool):=some (decide ((l0.length:Int) > 1048576))
theorem laws_big.calls (A0:Option Addr) (c0:Nat) (l0:List Int) (r:Bool) (w:World) (hr0:Kd.C (Kd.int .u8) w A0 l0.length l0) (hc0:l0.length≤c0) (h:laws_big.f l0=some r) :
  Calls Tryz.prog 22 #[.slice A0 l0.length c0] w fun e w'=>e = .returned (.bool r)∧Drawn0 w w':=by
 have HR0:=am_ hr0
 have HC0:=am_ hc0
 clear hr0 hc0
 have H:(some (decide ((l0.length:Int) > 1048576)))=some r:=h
 clear h
 obtain rfl:=Option.some.inj H
 go_enter Tryz.func22,Tryz.ntmps22
 go_wp2
 go_ret
 exact ⟨e1_,dw_⟩
end Go.Proofs.YtnlndmoecljicaaGreat.Q
end
section
namespace Go.Proofs.YtnlndmoecljicaaGreat.Q
open Go.Proofs.YtnlndmoecljicaaGreatW.PrintLast Go.Proofs.YtnlndmoecljicaaGreatW.PrintMore Go.Proofs.YtnlndmoecljicaaGreatW.PrintWords Go.RowKit Go.Shelf
set_option maxHeartbeats 8000000
set_option maxRecDepth 100000
section
structure BelowBut (B g:Nat) (w w':World):Prop where
 os:w'.os=w.os
 tape:w'.tape=w.tape
 output:w'.output=w.output
 size:w.heap.size≤w'.heap.size
 block:∀ k,k < B->k ≠ g->w'.heap[k]?=w.heap[k]?
theorem BelowBut.refl (B g:Nat) (w:World):BelowBut B g w w:=⟨rfl,rfl,rfl,Nat.le_refl _,fun _ _ _=>rfl⟩
theorem BelowBut.trans {B g:Nat} {a b c:World} (h:BelowBut B g a b) (k:BelowBut B g b c):BelowBut B g a c :=
 ⟨k.os.trans h.os,k.tape.trans h.tape,k.output.trans h.output,Nat.le_trans h.size k.size,fun i hi hn=>(k.block i hi hn).trans (h.block i hi hn)⟩
theorem BelowBut.drew {B g:Nat} {a w:World} (h:BelowBut B g a w):BelowBut B g a w.drew:=⟨h.os,h.tape,h.output,h.size,h.block⟩
theorem BelowBut.grown {B g:Nat} {w w':World} (h:w.grownBy w' (some g)) (hB:B≤w.heap.size):BelowBut B g w w' :=
 ⟨h.os,h.tape,h.output,h.size,fun k hk hn=>h.block k (by omega) (fun e=>hn (Option.some.inj e))⟩
theorem BelowBut.putObj {n₀ g:Nat} {w:World} (hn:n₀≤w.heap.size) (W:World) (l:Nat) (o o':Obj) (hl:w.heap.size≤l) (h:W.heap[l]?=some o) (_:o.isCells=false) (_:o.isWalk=false):BelowBut n₀ g W (W.putObj l o'):=by
 have hg:=grownBy_putObj' W l o'
 exact ⟨hg.os,hg.tape,hg.output,hg.size,fun k hk _=>hg.block k (by have:=(Array.getElem?_eq_some_iff.1 h).1;omega) (fun e=>by cases e;omega)⟩
theorem BelowBut.cell {B g:Nat} {w w':World} (h:BelowBut B g w w') {p:Addr} (hp:p.block < B) (hn:p.block ≠ g):w'.cell? p=w.cell? p:=World.cell?_of_block (w:=w) (h.block p.block hp hn)
def starts (k:Nat):List Nat:=(List.range k).map (64 * ·)
theorem starts_succ (k:Nat):starts (k+1)=starts k ++ [64 * k]:=by simp [starts,List.range_succ]
theorem starts_length (k:Nat):(starts k).length=k:=by simp [starts]
attribute [local go_sem] Oper.semAt_some
set_option maxHeartbeats 2000000 in
theorem chunk1_in (F:Fence) (n:Nat) (hF:F.fn 169) (hro:F.round=none) (hn:1≤n) (l Bs Bn n₀ gh b off cap m L:Nat) (hL:L=64 * m) (hcap:L≤cap) (hreach:L≤140737488355328)
  (hb:b < n₀) (hbs:Bs < n₀) (hbn:Bn < n₀) (hs1:Bs ≠ gh) (hs2:Bn ≠ gh) (J Jx:List Nat->World->Prop)
  (hY : ∀ pre x W,J pre W->pre.length < m->x+64≤L->YieldAt F (n - 1) Tryz.prog l #[.slice (some ⟨b,off+x,none⟩) 64 64] W fun e W' =>
   (e = .returned (.bool true)∧J (pre ++ [x]) W'∧BelowBut n₀ gh W W')∨(e = .returned (.bool false)∧Jx (pre ++ [x]) W'))
  (W:World) (hJ:AbidesFrom W.heap.size J) (hBs:W.cell? ⟨Bs,0,none⟩=some (.slice (some ⟨b,off,none⟩) L cap)) (hBn:W.cell? ⟨Bn,0,none⟩=some (.int .i64 64)) (h0:J [] W) :
  CallsIn F n Tryz.prog 169 #[.func (.yield l) #[] #[],.pointer (some ⟨Bs,0,none⟩),.pointer (some ⟨Bn,0,none⟩)] W fun e W'=>(∃ v,e = .returned v) ∧
   ((∃ ys,ys=starts m∧J ys W')∨(∃ pre,True∧Jx pre W')):=by
 refine callsIn_of_wp Tryz.func169 rfl hF ?_ hro
 have HL:=am_ hL
 clear hL
 simp only [Tryz.ntmps169,List.size_toArray,List.length_cons,List.length_nil,Nat.reduceAdd,Nat.reduceSub,Array.replicate_succ,Array.replicate_zero,List.push_toArray,List.append_toArray,List.nil_append,List.cons_append]
 gi_wp2
 gi_loopw [4] (fun i wr=>∃ k i0:Nat,k≤m∧Aside0 (i0=64 * k)∧i = .int .i64 i0∧J (starts k) wr∧BelowBut n₀ gh W wr)
  (fun i _=>L - (intOf i).toNat)
 case atStart => exact ⟨0,0,Nat.zero_le _,⟨rfl⟩,rfl,h0,BelowBut.refl _ _ _⟩
 case round =>
  obtain ⟨k,i,hk,HI,rfl,hJs,hnx⟩:=hrel
  have c1:wr.cell? ⟨Bs,0,none⟩=some (.slice (some ⟨b,off,none⟩) L cap):=(hnx.cell (p:=⟨Bs,0,none⟩) hbs hs1).trans hBs
  have c2:wr.cell? ⟨Bn,0,none⟩=some (.int .i64 64):=(hnx.cell (p:=⟨Bn,0,none⟩) hbn hs2).trans hBn
  have hi:=HI.out
  have hl:=HL.out
  by_cases hlt:i < L
  ·have hdrew:J (starts k) wr.drew:=hJ _ _ _ none hJs ⟨rfl,rfl,rfl,Nat.le_refl _,fun _ _ _=>rfl⟩ (fun r e=>by cases e)
   obtain ⟨fn,tmps,assign,body,hy,hR⟩:=hY _ i wr.drew hdrew (by rw [starts_length];omega) (by omega)
   have hle:i+64≤L:=by omega
   clear hi hl
   have b1:decide (i < L)=true:=decide_eq_true hlt
   gi_wp2
   gi_region
   all_goals
    gi_wp2
    refine hR.mono ?_
    rintro e W3 (⟨rfl,hJ3,hk3⟩|⟨rfl,hJx3⟩)
    ·have c3:W3.cell? ⟨Bn,0,none⟩=some (.int .i64 64):=(hk3.cell (p:=⟨Bn,0,none⟩) hbn hs2).trans c2
     gi_wp2
     go_roundw
     case rel => exact ⟨k+1,i+64,by have h1:=HI.out;have h2:=HL.out;omega,⟨by have h1:=HI.out;omega⟩,by go_num,by rw [starts_succ,← HI.out];exact hJ3,hnx.drew.trans hk3⟩
     case measure => simp [intOf];omega
    ·gi_wp2
     refine bodyPost_ret (results_none rfl _ _ _) rfl ?_
     exact ⟨⟨_,rfl⟩,.inr ⟨_,trivial,hJx3⟩⟩
  ·have b1:decide (i < L)=false:=decide_eq_false hlt
   have hkm:k=m:=by omega
   rw [hkm] at hJs
   clear hi hl hkm
   gi_wp2
   go_end0
   exact ⟨⟨_,rfl⟩,.inl ⟨_,rfl,hJs⟩⟩
theorem chunk_stops (F:Fence) (n:Nat) (hF:F.fn 169) (hro:F.round=none) (hn:1≤n) (Bs Bn n₀ gh b off cap m L:Nat) (hL:L=64 * m) (hcap:L≤cap) (hreach:L≤140737488355328)
  (hb:b < n₀) (hbs:Bs < n₀) (hbn:Bn < n₀) (hs1:Bs ≠ gh) (hs2:Bn ≠ gh) (w:World) (hn₀:n₀≤w.heap.size)
  (hBs:w.cell? ⟨Bs,0,none⟩=some (.slice (some ⟨b,off,none⟩) L cap)) (hBn:w.cell? ⟨Bn,0,none⟩=some (.int .i64 64)) :
  SeqStopsK F n Tryz.prog 169 #[.pointer (some ⟨Bs,0,none⟩),.pointer (some ⟨Bn,0,none⟩)] (fun x:{ x:Nat // x+64≤L }=>#[Value.slice (some ⟨b,off+x.1,none⟩) 64 64]) (BelowBut n₀ gh)
   (fun ys=>ys.map (·.1)=starts m) (fun _=>True) m w:=fun l J Jx W hW hJ _ hY h0=>by
 have hBs':=(hW.cell (p:=⟨Bs,0,none⟩) (Nat.lt_of_lt_of_le hbs hn₀)).trans hBs
 have hBn':=(hW.cell (p:=⟨Bn,0,none⟩) (Nat.lt_of_lt_of_le hbn hn₀)).trans hBn
 refine (chunk1_in F n hF hro hn l Bs Bn n₀ gh b off cap m L hL hcap hreach hb hbs hbn hs1 hs2 (fun pre W=>∃ q:List { x:Nat // x+64≤L },q.map (·.1)=pre∧J q W) (fun pre W=>∃ q:List { x:Nat // x+64≤L },q.map (·.1)=pre∧Jx q W) ?_ W ?_ hBs' hBn' ⟨[],rfl,h0⟩).mono ?_
 ·rintro pre x W1 ⟨q,rfl,hq⟩ hlen hx
  obtain ⟨fn,tmps,assign,body,hy,hR⟩:=hY q ⟨x,hx⟩ W1 hq (by simpa using hlen)
  refine ⟨fn,tmps,assign,body,hy,hR.mono ?_⟩
  rintro e W' (⟨rfl,hJ1,hk⟩|⟨rfl,hJx⟩)
  ·exact .inl ⟨rfl,⟨_,by simp,hJ1⟩,hk⟩
  ·exact .inr ⟨rfl,_,by simp,hJx⟩
 ·rintro s A B row ⟨q,rfl,hq⟩ hg hr
  exact ⟨q,rfl,hJ q A B row hq hg hr⟩
 ·rintro e W' ⟨he,⟨ys,rfl,q,hq,hj⟩|⟨pre,_,q,hq,hj⟩⟩
  ·exact ⟨he,.inl ⟨q,hq,hj⟩⟩
  ·exact ⟨he,.inr ⟨q,trivial,hj⟩⟩
set_option maxHeartbeats 1000000 in
theorem chunk_in (F:Fence) (n:Nat) (hF:F.fn 157) (hro:F.round=none) (a:Option Addr) (len cap:Nat) (w:World) :
  CallsIn F n Tryz.prog 157 #[.slice a len cap,.int .i64 64] w fun e w'=>e = .returned (.func (.func 169) #[] #[.pointer (some ⟨w.heap.size,0,none⟩),.pointer (some ⟨w.heap.size+1,0,none⟩)])∧w'=(w.alloc (.cells #[.slice a len cap] 27)).alloc (.cells #[.int .i64 64] 3):=by
 refine callsIn_of_wp Tryz.func157 rfl hF ?_ hro
 simp only [Tryz.ntmps157,List.size_toArray,List.length_cons,List.length_nil,Nat.reduceAdd,Nat.reduceSub,Array.replicate_succ,Array.replicate_zero,List.push_toArray,List.append_toArray,List.nil_append,List.cons_append]
 gi_wp2
 go_ret
 exact ⟨rfl,rfl⟩
end
end Go.Proofs.YtnlndmoecljicaaGreat.Q
end
section
namespace Go.Proofs.YtnlndmoecljicaaGreat.Q
open Go.Proofs.YtnlndmoecljicaaGreat.B Go.Proofs.YtnlndmoecljicaaGreatW.PrintMore Go.Proofs.YtnlndmoecljicaaGreatW.PrintWords Go.RowKit
set_option maxHeartbeats 8000000
set_option maxRecDepth 100000
def zerosOf (n:Nat):Nat:=(119 - n % 64) % 64
def tailBytes (n:Int):Nat->List Int
 | 0=>[]
 | j+1=>(shr .i64 n (8 * (j:Int))) % 256 :: tailBytes n j
def len8 (n:Int):List Int:=tailBytes n 8
theorem tailBytes_length (n:Int) (j:Nat):(tailBytes n j).length=j:=by
 induction j with
 | zero=>rfl
 | succ j ih=>simp [tailBytes,ih]
theorem tailBytes_bytes (n:Int) (j:Nat):∀ x ∈ tailBytes n j,0≤x∧x≤255:=by
 induction j with
 | zero=>simp [tailBytes]
 | succ j ih =>
  intro x hx
  rcases List.mem_cons.1 hx with rfl|hx
  ·omega
  ·exact ih x hx
def padL (l:List Int):List Int:=l ++ [128] ++ List.replicate (zerosOf l.length) 0 ++ len8 (8 * l.length)
theorem padL_length (l:List Int):(padL l).length % 64=0:=by
 simp [padL,len8,tailBytes_length,zerosOf]
 omega
theorem padL_bytes (l:List Int) (h:∀ x ∈ l,0≤x∧x≤255):∀ x ∈ padL l,0≤x∧x≤255:=by
 intro x hx
 simp only [padL,len8,List.mem_append,List.mem_replicate] at hx
 rcases hx with ((hx|hx)|hx)|hx
 ·exact h x hx
 ·simp at hx
  omega
 ·omega
 ·exact tailBytes_bytes _ _ x hx
theorem padL_size (l:List Int):(padL l).length≤l.length+72:=by
 simp [padL,len8,tailBytes_length,zerosOf]
 omega
theorem u64_eight (j:Nat) (hj:j≤7):IntKind.u64.wrap (wrap64 (8 * (j:Int)))=8 * (j:Int):=by
 rw [w64 (by omega) (by omega),IntWalk.u64_in _ ⟨by omega,by omega⟩]
theorem padded_l1 (n:Int):∀ (j:Nat) (acc:List Int),j≤8->acc.length+j≤140737488355320->Ev (fun k=>impl_Padded.l1 k acc n ((j:Int) - 1)) (acc ++ tailBytes n j):=by
 intro j
 induction j with
 | zero =>
  intro acc _ _
  refine Ev.step (f:=fun _=>some acc) (fun k=>?_) (Ev.one (Ev.now _) (by simp [tailBytes]))
  simp only [impl_Padded.l1]
  rw [if_neg (by omega)]
 | succ j ih =>
  intro acc h1 h2
  refine Ev.step (fun k=>?_) (Ev.one (ih (acc ++ [(shr .i64 n (8 * (j:Int))) % 256]) (by omega) (by simp;omega)) (by simp [tailBytes]))
  simp only [impl_Padded.l1]
  have hj:(((j+1:Nat):Int) - 1)=(j:Int):=by omega
  rw [hj,if_pos (by omega),u64_eight j (by omega),if_pos (by omega),if_pos (by omega),w64 (by omega) (by omega)]
theorem padded_l0 (l:List Int) (hl:l.length≤1099511627776):∀ (d i:Nat) (acc:List Int),i+d=zerosOf l.length->acc=l ++ [128] ++ List.replicate i 0->Ev (fun k=>impl_Padded.l0 k l acc) (padL l):=by
 intro d
 induction d with
 | zero =>
  intro i acc hi ha
  have hlen:acc.length=l.length+1+i:=by rw [ha];simp;omega
  have hz:zerosOf l.length=(119 - l.length % 64) % 64:=rfl
  refine Ev.step (fun k=>?_) (Ev.one (padded_l1 (8 * (l.length:Int)) 8 acc (by omega) (by omega)) ?_)
  ·simp only [impl_Padded.l0]
   rw [w64 (by omega) (by omega),Int.tmod_eq_emod_of_nonneg (by omega),if_pos (by omega),w64 (by omega) (by omega)]
   rfl
  ·rw [ha,show i=zerosOf l.length from by omega]
   rfl
 | succ d ih =>
  intro i acc hi ha
  have hlen:acc.length=l.length+1+i:=by rw [ha];simp;omega
  have hz:zerosOf l.length=(119 - l.length % 64) % 64:=rfl
  refine Ev.step (fun k=>?_) (ih (i+1) (acc ++ [0]) (by omega) (by rw [ha,List.append_assoc (l ++ [128])];congr 1;rw [List.replicate_succ']))
  simp only [impl_Padded.l0]
  rw [w64 (by omega) (by omega),Int.tmod_eq_emod_of_nonneg (by omega),if_neg (by omega),if_pos (by omega)]
theorem impl_Padded_ev (l:List Int) (hl:l.length≤1099511627776):Ev (fun k=>impl_Padded.f k l) (padL l):=by
 refine Ev.congr (fun k=>?_) (padded_l0 l hl (zerosOf l.length) 0 (l ++ [128]) (by omega) (by simp))
 unfold impl_Padded.f slices_Clone_byte_byte.f
 rw [if_pos (by omega)]
 simp only [Option.bind_some]
 rw [if_pos (by omega)]
theorem spec_in_eq (a b c:Int):spec_l1In.f a b c=some (decide (b≤a∧a≤c)):=by
 unfold spec_l1In.f
 by_cases h:a ≥ b
 ·rw [if_pos h]
  by_cases h2:a≤c
  ·rw [decide_eq_true h2,decide_eq_true ⟨h,h2⟩]
  ·rw [decide_eq_false h2,decide_eq_false (fun q=>h2 q.2)]
 ·rw [if_neg h,decide_eq_false (fun q=>h q.1)]
theorem impl_in_eq (a b c:Int):impl_inRange.f a b c=some (decide (b≤a∧a≤c)):=spec_in_eq a b c
theorem nextC {i n:Nat} (h:i < n) (hn:n≤9223372036854775807):wrap64 ((i:Int) + 1)=((i+1:Nat):Int):=by
 rw [w64 (by omega) (by omega)]
 omega
theorem spec_same_ev (a b:List ByteArray) (ha:a.length≤9223372036854775807):Ev (fun k=>spec_l8Same.f k a b) (decide (a=b)):=by
 unfold spec_l8Same.f
 by_cases hl:a.length=b.length
 ·have main:∀ (d i:Nat),i+d=a.length->a.take i=b.take i->Ev (fun k=>spec_l8Same.l0 k a b (i:Int)) (decide (a=b)):=by
   intro d
   induction d with
   | zero =>
    intro i hi ht
    rw [List.take_of_length_le (by omega),List.take_of_length_le (by omega)] at ht
    rw [decide_eq_true ht]
    refine Ev.step (fun k=>by simp only [spec_l8Same.l0];rfl) ?_
    exact Ev.neg (by omega) (Ev.now _)
   | succ d ih =>
    intro i hi ht
    obtain ⟨x,hx⟩:=get_some (l:=a) (i:=i) (by omega)
    obtain ⟨y,hy⟩:=get_some (l:=b) (i:=i) (by omega)
    refine Ev.step (fun k=>by simp only [spec_l8Same.l0];rfl) ?_
    rw [rdOf_at hx,rdOf_at hy,nextC (show i < a.length by omega) ha]
    by_cases h:x.toList=y.toList
    ·have e:=bytes_ext h
     subst e
     exact Ev.pos (by omega) (Ev.pos (by omega) (Ev.pos (by omega) (Ev.pos rfl (ih (i+1) (by omega) (by rw [take_one hx,take_one hy,ht])))))
    ·have hn:¬ a=b:=by
      intro e
      subst e
      rw [hx] at hy
      exact h (by rw [Option.some.inj hy])
     rw [decide_eq_false hn]
     exact Ev.pos (by omega) (Ev.pos (by omega) (Ev.pos (by omega) (Ev.neg h (Ev.now _))))
  exact Ev.pos (by omega) (main a.length 0 (by omega) (by simp))
 ·have hn:¬ a=b:=fun e=>hl (by rw [e])
  rw [decide_eq_false hn]
  exact Ev.neg (by omega) (Ev.now _)
theorem impl_same_ev (a b:List ByteArray) (ha:a.length≤9223372036854775807):Ev (fun k=>slices_Equal_string_string.f k a b) (decide (a=b)):=by
 unfold slices_Equal_string_string.f
 by_cases hl:a.length=b.length
 ·have main:∀ (d i:Nat),i+d=a.length->a.take i=b.take i->Ev (fun k=>slices_Equal_string_string.l0 k a b (a.length:Int) (i:Int)) (decide (a=b)):=by
   intro d
   induction d with
   | zero =>
    intro i hi ht
    rw [List.take_of_length_le (by omega),List.take_of_length_le (by omega)] at ht
    rw [decide_eq_true ht]
    refine Ev.step (fun k=>by simp only [slices_Equal_string_string.l0];rfl) ?_
    exact Ev.neg (by omega) (Ev.now _)
   | succ d ih =>
    intro i hi ht
    obtain ⟨x,hx⟩:=get_some (l:=a) (i:=i) (by omega)
    obtain ⟨y,hy⟩:=get_some (l:=b) (i:=i) (by omega)
    refine Ev.step (fun k=>by simp only [slices_Equal_string_string.l0];rfl) ?_
    rw [rdOf_at hx,rdOf_at hy,nextC (show i < a.length by omega) ha]
    by_cases h:x.toList=y.toList
    ·have e:=bytes_ext h
     subst e
     exact Ev.pos (by omega) (Ev.pos (by omega) (Ev.pos (by omega) (Ev.pos (by omega) (Ev.pos rfl (ih (i+1) (by omega) (by rw [take_one hx,take_one hy,ht]))))))
    ·have hn:¬ a=b:=by
      intro e
      subst e
      rw [hx] at hy
      exact h (by rw [Option.some.inj hy])
     rw [decide_eq_false hn]
     exact Ev.pos (by omega) (Ev.pos (by omega) (Ev.pos (by omega) (Ev.pos (by omega) (Ev.neg h (Ev.now _)))))
  exact Ev.pos (by omega) (main a.length 0 (by omega) (by simp))
 ·have hn:¬ a=b:=fun e=>hl (by rw [e])
  rw [decide_eq_false hn]
  exact Ev.neg (by omega) (Ev.now _)
abbrev IHead:=S37
def hasHead (l:List IHead) (a:Int) (b:ByteArray):Bool:=l.any fun x=>x.f0 == a && (x.f1.toList == b.toList)
theorem rdI {l:List IHead} {i:Nat} {x:IHead} (h:l[i]?=some x):rd_T37 l (i:Int)=x:=by
 unfold rd_T37
 simp [List.getD_eq_getElem?_getD,h]
theorem next64 {i n:Nat} (h:i < n) (hn:n≤9223372036854775807):wrap64 ((i:Int) + 1)=((i+1:Nat):Int):=by
 rw [w64 (by omega) (by omega)]
 omega
theorem spec_IsSigned_ev (l:List IHead) (a:Int) (b:ByteArray) (hl:l.length≤9223372036854775807):Ev (fun k=>spec_IsSigned.f k l a b) (hasHead l a b):=by
 have main:∀ (d i:Nat),i+d=l.length->Ev (fun k=>spec_IsSigned.l0 k l (i:Int) a b) (hasHead (l.drop i) a b):=by
  intro d
  induction d with
  | zero =>
   intro i hi
   refine Ev.step (f:=fun _=>some false) (fun k=>?_) (Ev.one (Ev.now _) ?_)
   ·simp only [spec_IsSigned.l0]
    rw [if_neg (by omega)]
   ·rw [List.drop_of_length_le (by omega)]
    rfl
  | succ d ih =>
   intro i hi
   obtain ⟨x,hx⟩:=get_some (l:=l) (i:=i) (by omega)
   by_cases h:(x.f0 == a && (x.f1.toList == b.toList))=true
   ·refine Ev.step (f:=fun _=>some true) (fun k=>?_) (Ev.one (Ev.now _) ?_)
    ·simp only [spec_IsSigned.l0]
     rw [if_pos (by omega),if_pos (by omega),rdI hx,if_pos h]
    ·rw [drop_one hx]
     simp only [hasHead,List.any_cons,h,Bool.true_or]
   ·refine Ev.step (fun k=>?_) (Ev.one (ih (i+1) (by omega)) ?_)
    ·simp only [spec_IsSigned.l0]
     rw [if_pos (by omega),if_pos (by omega),rdI hx,if_neg h,next64 (show i < l.length by omega) hl]
    ·rw [drop_one hx]
     simp only [hasHead,List.any_cons,Bool.eq_false_iff.mpr h,Bool.false_or]
 exact main l.length 0 (by omega)
theorem impl_Index_ev (l:List IHead) (a:Int) (b:ByteArray) (hl:l.length≤9223372036854775807):∃ r,Ev (fun k=>impl_Head_152.f k l a b) r∧decide (r ≥ 0)=hasHead l a b:=by
 have main:∀ (d i:Nat),i+d=l.length->∃ r,Ev (fun k=>impl_Head_152.l0 k l (l.length:Int) (i:Int) a b) r∧decide (r ≥ 0)=hasHead (l.drop i) a b:=by
  intro d
  induction d with
  | zero =>
   intro i hi
   refine ⟨-1,Ev.step (f:=fun _=>some (-1)) (fun k=>?_) (Ev.now _),?_⟩
   ·simp only [impl_Head_152.l0]
    rw [if_neg (by omega)]
   ·rw [List.drop_of_length_le (by omega)]
    rfl
  | succ d ih =>
   intro i hi
   obtain ⟨x,hx⟩:=get_some (l:=l) (i:=i) (by omega)
   have hsym:(a == x.f0 && (b.toList == x.f1.toList))=(x.f0 == a && (x.f1.toList == b.toList)):=by
    rw [Bool.beq_comm (a:=a),Bool.beq_comm (a:=b.toList)]
   by_cases h:(x.f0 == a && (x.f1.toList == b.toList))=true
   ·refine ⟨(i:Int),Ev.step (f:=fun _=>some (i:Int)) (fun k=>?_) (Ev.now _),?_⟩
    ·simp only [impl_Head_152.l0]
     rw [if_pos (by omega),if_pos (by omega),if_pos (by omega),rdI hx,hsym,if_pos h]
    ·rw [drop_one hx]
     simp only [hasHead,List.any_cons,h,Bool.true_or]
     exact decide_eq_true (by omega)
   ·obtain ⟨r,h1,h2⟩:=ih (i+1) (by omega)
    refine ⟨r,Ev.step (fun k=>?_) h1,?_⟩
    ·simp only [impl_Head_152.l0]
     rw [if_pos (by omega),if_pos (by omega),if_pos (by omega),rdI hx,hsym,if_neg h,next64 (show i < l.length by omega) hl]
    ·rw [h2,drop_one hx]
     simp only [hasHead,List.any_cons,Bool.eq_false_iff.mpr h,Bool.false_or]
 obtain ⟨r,h1,h2⟩:=main l.length 0 (by omega)
 exact ⟨r,h1,h2⟩
theorem impl_IsSigned_ev (l:List IHead) (a:Int) (b:ByteArray) (hl:l.length≤9223372036854775807):Ev (fun k=>impl_IsSigned.f k l a b) (hasHead l a b):=by
 obtain ⟨r,h1,h2⟩:=impl_Index_ev l a b hl
 refine Ev.congr (fun k=>by unfold impl_IsSigned.f impl_Head_129.f;rfl) ?_
 refine Ev.bind (Ev.bind h1 (Ev.now _)) ?_
 rw [h2]
 exact Ev.now _
theorem one64:wrap64 (0+1)=1:=by rw [w64 (by omega) (by omega)];rfl
theorem two64:wrap64 (1+1)=2:=by rw [w64 (by omega) (by omega)];rfl
theorem concat_l1 (a b:List ByteArray) (h:a.length+b.length≤1000000000):Ev (fun k=>slices_Concat_string_string.l1 k [] [a,b] 2 0) (a ++ b):=by
 have ea:rd_L5 [a,b] 0=a:=rfl
 have eb:rd_L5 [a,b] 1=b:=rfl
 refine Ev.step (fun k=>by simp only [slices_Concat_string_string.l1];rfl) ?_
 rw [ea,one64]
 refine Ev.pos (by omega) (Ev.pos (by omega) (Ev.pos (by simp) (Ev.pos (by simp;omega) ?_)))
 refine Ev.step (fun k=>by simp only [slices_Concat_string_string.l1];rfl) ?_
 rw [eb,two64]
 refine Ev.pos (by omega) (Ev.pos (by omega) (Ev.pos (by simp) (Ev.pos (by simp;omega) ?_)))
 refine Ev.step (fun k=>by simp only [slices_Concat_string_string.l1];rfl) ?_
 exact Ev.neg (by omega) (Ev.one (Ev.now _) rfl)
theorem concat_ev (a b:List ByteArray) (h:a.length+b.length≤1000000000) (h1:1≤a.length+b.length):Ev (fun k=>slices_Concat_string_string.f k [a,b]) (a ++ b):=by
 have ea:rd_L5 [a,b] 0=a:=rfl
 have eb:rd_L5 [a,b] 1=b:=rfl
 have e2:(([a,b]:List (List ByteArray)).length:Int)=2:=rfl
 have hg:slices_Grow_string_string.f [] ((a.length:Int) + (b.length:Int))=some []:=by
  unfold slices_Grow_string_string.f
  rw [if_pos ⟨rfl,by omega,by omega⟩]
 unfold slices_Concat_string_string.f
 refine Ev.step (fun k=>by simp only [slices_Concat_string_string.l0];rfl) ?_
 rw [ea,e2,w64 (x:=0+(a.length:Int)) (by omega) (by omega),one64,Int.zero_add]
 refine Ev.pos (by omega) (Ev.pos (by omega) (Ev.pos (by omega) (Ev.neg (by omega) ?_)))
 refine Ev.step (fun k=>by simp only [slices_Concat_string_string.l0];rfl) ?_
 rw [eb,e2,w64 (x:=(a.length:Int) + (b.length:Int)) (by omega) (by omega),two64]
 refine Ev.pos (by omega) (Ev.pos (by omega) (Ev.pos (by omega) (Ev.neg (by omega) ?_)))
 refine Ev.step (fun k=>by simp only [slices_Concat_string_string.l0];rfl) ?_
 rw [e2]
 exact Ev.neg (by omega) (Ev.bind (Ev.const hg) (concat_l1 a b h))
theorem impl_copyLog_eq (l:List ByteArray) (n:Int) (s:ByteArray) (hl:l.length < 8796093022208):impl_copyLog.f l n s=some (l,n,s):=by
 unfold impl_copyLog.f slices_Clone_string_string.f
 rw [if_pos (by omega)]
 rfl
theorem spec_l11Copy_eq (l:List ByteArray) (n:Int) (s:ByteArray) (hl:l.length < 8796093022208):spec_l11Copy.f l n s=some (l,n,s):=by
 unfold spec_l11Copy.f
 simp only [Option.bind_some,List.length_nil,List.nil_append]
 rw [if_pos (by omega)]
theorem impl_copyStore_eq (l:List ByteArray) (n:Int) (s:ByteArray) (b:List Int) (u:Int) (hl:l.length < 8796093022208) (hb:b.length < 140737488355328):impl_copyStore.f l n s b u=some (l,n,s,b,u):=by
 unfold impl_copyStore.f slices_Clone_byte_byte.f
 rw [impl_copyLog_eq l n s hl,if_pos (show b.length≤140737488355328 by omega)]
 rfl
theorem spec_l12Copy_eq (l:List ByteArray) (n:Int) (s:ByteArray) (b:List Int) (u:Int) (hl:l.length < 8796093022208) (hb:b.length < 140737488355328):spec_l12Copy.f l n s b u=some (l,n,s,b,u):=by
 unfold spec_l12Copy.f
 rw [spec_l11Copy_eq l n s hl]
 simp only [Option.bind_some,List.length_nil,List.nil_append]
 rw [if_pos (by omega)]
theorem exb {α β:Type} {f:Nat->Option α} {g:Nat->α->Option β} {a:α} {B:β->Prop} (h:Ev f a) (k:∃ r,Ev (fun k=>g k a) r∧B r):∃ r,Ev (fun k=>(f k).bind (fun x=>g k x)) r∧B r:=by
 obtain ⟨r,e,b⟩:=k
 exact ⟨r,Ev.bind h e,b⟩
theorem exp_ {β:Type} {c:Prop} [Decidable c] {f g:Nat->Option β} {B:β->Prop} (h:c) (k:∃ r,Ev f r∧B r):∃ r,Ev (fun k=>if c then f k else g k) r∧B r:=by
 obtain ⟨r,e,b⟩:=k
 exact ⟨r,Ev.pos h e,b⟩
theorem exn_ {β:Type} {c:Prop} [Decidable c] {f g:Nat->Option β} {B:β->Prop} (h:¬ c) (k:∃ r,Ev g r∧B r):∃ r,Ev (fun k=>if c then f k else g k) r∧B r:=by
 obtain ⟨r,e,b⟩:=k
 exact ⟨r,Ev.neg h e,b⟩
def bestStep (b h:IHead):IHead:=if h.f0 > b.f0 then h else b
def bestHead:List IHead->IHead
 | []=>⟨0,⟨#[]⟩⟩
 | h :: t=>t.foldl bestStep h
theorem spec_BestHead_ev (l:List IHead) (hl:l.length≤9223372036854775807):Ev (fun k=>spec_BestHead.f k l) ((bestHead l).f0,(bestHead l).f1):=by
 have main:∀ (d i:Nat) (b:IHead),i+d=l.length->Ev (fun k=>spec_BestHead.l0 k l (i:Int) b.f0 b.f1) (((l.drop i).foldl bestStep b).f0,((l.drop i).foldl bestStep b).f1):=by
  intro d
  induction d with
  | zero =>
   intro i b hi
   refine Ev.step (f:=fun _=>some (b.f0,b.f1)) (fun k=>?_) (Ev.one (Ev.now _) ?_)
   ·simp only [spec_BestHead.l0]
    rw [if_neg (by omega)]
   ·rw [List.drop_of_length_le (by omega)]
    rfl
  | succ d ih =>
   intro i b hi
   obtain ⟨x,hx⟩:=get_some (l:=l) (i:=i) (by omega)
   rw [drop_one hx,List.foldl_cons]
   by_cases h:x.f0 > b.f0
   ·have e:bestStep b x=x:=if_pos h
    rw [e]
    refine Ev.step (fun k=>?_) (ih (i+1) x (by omega))
    simp only [spec_BestHead.l0]
    rw [if_pos (by omega),if_pos (by omega),rdI hx,if_pos h,next64 (show i < l.length by omega) hl]
   ·have e:bestStep b x=b:=if_neg h
    rw [e]
    refine Ev.step (fun k=>?_) (ih (i+1) b (by omega))
    simp only [spec_BestHead.l0]
    rw [if_pos (by omega),if_pos (by omega),rdI hx,if_neg h,next64 (show i < l.length by omega) hl]
 cases l with
 | nil =>
  refine Ev.congr (fun k=>?_) (Ev.now _)
  unfold spec_BestHead.f
  rfl
 | cons h t =>
  refine Ev.congr (fun k=>?_) (main t.length 1 h (by simp;omega))
  unfold spec_BestHead.f
  rw [if_neg (by simp;omega),if_pos (by simp)]
  rfl
theorem mx_eq (a b:Int):mx a b=max a b:=by
 unfold mx
 by_cases h:a < b
 ·rw [if_pos h]
  omega
 ·rw [if_neg h]
  omega
theorem mn_eq (a b:Int):mn a b=min a b:=by
 unfold mn
 by_cases h:b < a
 ·rw [if_pos h]
  omega
 ·rw [if_neg h]
  omega
def fallAt (n s keep:Int):Int:=s+min (max keep 0) (n - s)
def fallOf (b:List Int) (sure keep:Int):List Int:=b.take (fallAt b.length (max 0 (min sure b.length)) keep).toNat
theorem impl_FallStore_eq (l:List ByteArray) (n:Int) (r:ByteArray) (b:List Int) (u keep:Int) (hb:b.length≤1048576):impl_FallStore.f l n r b u keep=some (fallOf b u keep):=by
 unfold impl_FallStore.f fallOf fallAt
 simp only [mx_eq,mn_eq]
 rw [w64 (x:=(b.length:Int) - max 0 (min u (b.length:Int))) (by omega) (by omega),w64 (x:=max 0 (min u (b.length:Int)) + min (max keep 0) ((b.length:Int) - max 0 (min u (b.length:Int)))) (by omega) (by omega)]
 rw [if_pos (by omega),if_pos (by omega)]
 unfold slices_Clone_byte_byte.f
 rw [if_pos (by simp;omega)]
 rfl
theorem fall_j1 (l:List ByteArray) (n:Int) (r:ByteArray) (b:List Int) (u keep s:Int) (hb:b.length≤1048576) (h0:0≤s) (h1:s≤b.length):Ev (fun k=>spec_FallStore.j1 k keep s l n r b u) (b.take (fallAt b.length s keep).toNat):=by
 refine Ev.step (fun k=>by simp only [spec_FallStore.j1];rfl) ?_
 rw [w64 (x:=(b.length:Int) - s) (by omega) (by omega),w64 (x:=s+((b.length:Int) - s)) (by omega) (by omega)]
 by_cases hk:keep > 0
 ·refine Ev.pos hk ?_
  by_cases hk2:keep > (b.length:Int) - s
  ·refine Ev.pos hk2 (Ev.bind (Ev.now _) (Ev.pos (by omega) (Ev.pos (by omega) (Ev.pos (by simp;omega) (Ev.one (Ev.now _) ?_)))))
   rw [List.nil_append]
   congr 1
   unfold fallAt
   omega
  ·rw [w64 (x:=s+keep) (by omega) (by omega)]
   refine Ev.neg hk2 (Ev.bind (Ev.now _) (Ev.pos (by omega) (Ev.pos (by omega) (Ev.pos (by simp;omega) (Ev.one (Ev.now _) ?_)))))
   rw [List.nil_append]
   congr 1
   unfold fallAt
   omega
 ·refine Ev.neg hk (Ev.bind (Ev.now _) (Ev.pos (by omega) (Ev.pos (by omega) (Ev.pos (by simp;omega) (Ev.one (Ev.now _) ?_)))))
  rw [List.nil_append]
  congr 1
  unfold fallAt
  omega
theorem fall_j0 (l:List ByteArray) (n:Int) (r:ByteArray) (b:List Int) (u keep s:Int) (hb:b.length≤1048576) (h0:0≤s):Ev (fun k=>spec_FallStore.j0 k keep s l n r b u) (b.take (fallAt b.length (min s b.length) keep).toNat):=by
 refine Ev.step (fun k=>by simp only [spec_FallStore.j0];rfl) ?_
 by_cases h:s > (b.length:Int)
 ·refine Ev.pos h (Ev.one (fall_j1 l n r b u keep b.length hb (by omega) (by omega)) ?_)
  rw [show min s (b.length:Int)=b.length by omega]
 ·refine Ev.neg h (Ev.one (fall_j1 l n r b u keep s hb (by omega) (by omega)) ?_)
  rw [show min s (b.length:Int)=s by omega]
theorem spec_FallStore_ev (l:List ByteArray) (n:Int) (r:ByteArray) (b:List Int) (u keep:Int) (hb:b.length≤1048576):Ev (fun k=>spec_FallStore.f k l n r b u keep) (fallOf b u keep):=by
 unfold spec_FallStore.f fallOf
 by_cases h:u < 0
 ·refine Ev.pos h (Ev.one (fall_j0 l n r b u keep 0 hb (by omega)) ?_)
  congr 3
  omega
 ·refine Ev.neg h (Ev.one (fall_j0 l n r b u keep u hb (by omega)) ?_)
  congr 3
  omega
theorem nextST {i n:Nat} (h:i < n) (hn:n≤9223372036854775807):wrap64 ((i:Int) + 1)=((i+1:Nat):Int):=by
 rw [w64 (by omega) (by omega)]
 omega
theorem laws_same_ev (a b:List ByteArray) (ha:a.length≤9223372036854775807):Ev (fun k=>laws_sameTexts.f k a b) (decide (a=b)):=by
 unfold laws_sameTexts.f
 by_cases hl:a.length=b.length
 ·have main:∀ (d i:Nat),i+d=a.length->a.take i=b.take i->Ev (fun k=>laws_sameTexts.l0 k a b (i:Int)) (decide (a=b)):=by
   intro d
   induction d with
   | zero =>
    intro i hi ht
    rw [List.take_of_length_le (by omega),List.take_of_length_le (by omega)] at ht
    rw [decide_eq_true ht]
    refine Ev.step (fun k=>by simp only [laws_sameTexts.l0];rfl) ?_
    exact Ev.neg (by omega) (Ev.now _)
   | succ d ih =>
    intro i hi ht
    obtain ⟨x,hx⟩:=get_some (l:=a) (i:=i) (by omega)
    obtain ⟨y,hy⟩:=get_some (l:=b) (i:=i) (by omega)
    refine Ev.step (fun k=>by simp only [laws_sameTexts.l0];rfl) ?_
    rw [rdOf_at hx,rdOf_at hy,nextST (show i < a.length by omega) ha]
    by_cases h:x.toList=y.toList
    ·have e:=bytes_ext h
     subst e
     exact Ev.pos (by omega) (Ev.pos (by omega) (Ev.pos (by omega) (Ev.pos rfl (ih (i+1) (by omega) (by rw [take_one hx,take_one hy,ht])))))
    ·have hn:¬ a=b:=by
      intro e
      subst e
      rw [hx] at hy
      exact h (by rw [Option.some.inj hy])
     rw [decide_eq_false hn]
     exact Ev.pos (by omega) (Ev.pos (by omega) (Ev.pos (by omega) (Ev.neg h (Ev.now _))))
  exact Ev.pos (by omega) (main a.length 0 (by omega) (by simp))
 ·have hn:¬ a=b:=fun e=>hl (by rw [e])
  rw [decide_eq_false hn]
  exact Ev.neg (by omega) (Ev.now _)
theorem begins_ev (a b:List ByteArray) (ha:(a ++ b).length≤9223372036854775807):Ev (fun k=>laws_begins.f k a (a ++ b)) true:=by
 rw [List.length_append] at ha
 unfold laws_begins.f
 refine Ev.pos (by rw [List.length_append];omega) (Ev.pos (by omega) ?_)
 rw [Int.toNat_natCast,List.take_left]
 have:=laws_same_ev a a (by omega)
 rw [decide_eq_true rfl] at this
 exact Ev.bind this (Ev.now _)
end Go.Proofs.YtnlndmoecljicaaGreat.Q
end
section
namespace Go.Proofs.YtnlndmoecljicaaGreat.Q
open Go.Proofs.YtnlndmoecljicaaGreatW.PrintLast Go.Proofs.YtnlndmoecljicaaGreatW.PrintMore Go.Proofs.YtnlndmoecljicaaGreatW.PrintWords Go.RowKit Go.Shelf
set_option maxHeartbeats 8000000
set_option maxRecDepth 100000
def shaK:List Int:=[1116352408,1899447441,3049323471,3921009573,961987163,1508970993,2453635748,2870763221,3624381080,310598401,607225278,1426881987,1925078388,2162078206,2614888103,3248222580,3835390401,4022224774,264347078,604807628,770255983,1249150122,1555081692,1996064986,2554220882,2821834349,2952996808,3210313671,3336571891,3584528711,113926993,338241895,666307205,773529912,1294757372,1396182291,1695183700,1986661051,2177026350,2456956037,2730485921,2820302411,3259730800,3345764771,3516065817,3600352804,4094571909,275423344,430227734,506948616,659060556,883997877,958139571,1322822218,1537002063,1747873779,1955562222,2024104815,2227730452,2361852424,2428436474,2756734187,3204031479,3329325298]
def shaH:List Int:=[1779033703,3144134277,1013904242,2773480762,1359893119,2600822924,528734635,1541459225]
def blockAt (p:List Int) (x:Nat):List Int:=(p.drop x).take 64
def foldAt (p:List Int) (xs:List Nat):List Int:=xs.foldl (fun h x=>turned shaK (blockAt p x) h) shaH
theorem foldAt_snoc (p:List Int) (xs:List Nat) (x:Nat):foldAt p (xs ++ [x])=turned shaK (blockAt p x) (foldAt p xs):=by simp [foldAt]
theorem turned_length (ks bs hs:List Int):(turned ks bs hs).length=hs.length:=addAt_length _ _ _
theorem foldAt_length (p:List Int) (xs:List Nat):(foldAt p xs).length=8:=by
 have main:∀ (xs:List Nat) (h:List Int),h.length=8->(xs.foldl (fun h x=>turned shaK (blockAt p x) h) h).length=8:=by
  intro xs
  induction xs with
  | nil=>exact fun h hh=>hh
  | cons x xs ih=>exact fun h hh=>ih _ (by rw [turned_length];exact hh)
 exact main xs shaH rfl
def wordBytes (x:Int):List Int:=[x / 16777216 % 256,x / 65536 % 256,x / 256 % 256,x % 256]
def outBytes (hs:List Int) (k:Nat):List Int:=(hs.take k).flatMap wordBytes
def shaBytes (l:List Int):List Int:=outBytes (foldAt (padL l) (starts ((padL l).length / 64))) 8
def sha (l:List Int):ByteArray:=strOfNums (shaBytes l)
def impl_Digest.f (l:List Int):Option (ByteArray):=if l.length≤1099511627776 then some (sha l) else none
set_option maxHeartbeats 2000000 in
theorem rounds_calls (w:World):Calls Tryz.prog 156 #[] w fun e w'=>∃ g,e = .returned (.pointer (some ⟨g,0,none⟩))∧w.heap.size≤g∧w'.heap[g]?=some (.cells (arrU shaK) 170 (0,0))∧Below w.heap.size w w':=by
 go_enter Tryz.func156,Tryz.ntmps156
 go_wp2
 go_ret
 exact ⟨_,rfl,Nat.le_refl _,blk_new w _,(Below.refl _ _).alloc (Nat.le_refl _) _⟩
theorem sub_reads {w:World} {b n:Nat} {xs:List Int} (h:Kd.C (Kd.int .u8) w (some ⟨b,0,none⟩) n xs) (x:Nat) (hx:x+64≤n):Kd.C (Kd.int .u8) w (some ⟨b,0+x,none⟩) (blockAt xs x).length (blockAt xs x)∧(blockAt xs x).length=64:=by
 have hl:=h.1
 have h64:(blockAt xs x).length=64:=by simp [blockAt];omega
 obtain ⟨ad,he,hby⟩:=bytes_at h (by omega)
 obtain rfl:=(Option.some.inj he).symm
 refine ⟨⟨rfl,by omega,fun _=>⟨_,rfl,fun j p hj=>⟨[.int .u8 p],rfl,rfl,fun i u hu=>?_⟩⟩⟩,h64⟩
 have hj64:j < 64:=by rw [← h64];exact (List.getElem?_eq_some_iff.1 hj).1
 have hi0:i=0:=by
  rcases Nat.eq_zero_or_pos i with hz|hz
  ·exact hz
  ·rw [List.getElem?_eq_none (by simp;omega)] at hu
   cases hu
 subst hi0
 have hu2:u = .int .u8 p:=by simpa using hu.symm
 have hp:xs[x+j]?=some p:=by
  rw [blockAt,List.getElem?_take,if_pos hj64,List.getElem?_drop] at hj
  exact hj
 have:=hby.2 (x+j) (by omega)
 rw [hu2]
 have hrd:rd xs ((x+j:Nat):Int)=p:=by unfold rd;rw [Int.toNat_natCast];simp [List.getD_eq_getElem?_getD,hp]
 rw [hrd] at this
 have haddr:(⟨b,0+x,none⟩:Addr).add (j * (Kd.int .u8).sz+0)=(⟨b,0,none⟩:Addr).add (x+j):=by
  rw [show (Kd.int .u8).sz=1 from rfl,Nat.mul_one,Nat.add_zero]
  unfold Addr.add
  by_cases hj0:j=0
  ·by_cases hxx:x=0
   ·simp [hj0,hxx]
   ·simp [hj0,hxx]
  ·simp [hj0]
 rw [haddr]
 exact this
theorem C_at {w W:World} {g n:Nat} {xs:List Int} (h:Kd.C (Kd.int .u8) w (some ⟨g,0,none⟩) n xs) (hb:W.heap[g]?=w.heap[g]?):Kd.C (Kd.int .u8) W (some ⟨g,0,none⟩) n xs:=by
 refine ⟨h.1,h.2.1,fun hp=>?_⟩
 obtain ⟨ad,he,f⟩:=h.2.2 hp
 obtain rfl:=(Option.some.inj he).symm
 refine ⟨_,he,fun j p hj=>?_⟩
 obtain ⟨cs,h1,h2,h3⟩:=f j p hj
 refine ⟨cs,h1,h2,fun i u hu=>?_⟩
 have h4:=h3 i u hu
 have ha:((⟨g,0,none⟩:Addr).add (j * (Kd.int .u8).sz+i)).block=g:=by
  unfold Addr.add
  split <;> rfl
 rw [World.cell?_of_block (w:=w) (w':=W) (by rw [ha];exact hb)]
 exact h4
@[local go_sem] theorem run_index_h0 (v0 v1 v2 v3 v4 v5 v6 v7:Int) (w:World):(Instr.index 159 (.agg #[.int .u32 v0,.int .u32 v1,.int .u32 v2,.int .u32 v3,.int .u32 v4,.int .u32 v5,.int .u32 v6,.int .u32 v7]) (.int .i64 0)).run Tryz.prog w = .ok (.int .u32 v0) w:=by
 simp [Instr.index,asIntOf,run_underlying Tryz.underlying159,go_sem]
@[local go_sem] theorem run_index_h1 (v0 v1 v2 v3 v4 v5 v6 v7:Int) (w:World):(Instr.index 159 (.agg #[.int .u32 v0,.int .u32 v1,.int .u32 v2,.int .u32 v3,.int .u32 v4,.int .u32 v5,.int .u32 v6,.int .u32 v7]) (.int .i64 1)).run Tryz.prog w = .ok (.int .u32 v1) w:=by
 simp [Instr.index,asIntOf,run_underlying Tryz.underlying159,go_sem]
@[local go_sem] theorem run_index_h2 (v0 v1 v2 v3 v4 v5 v6 v7:Int) (w:World):(Instr.index 159 (.agg #[.int .u32 v0,.int .u32 v1,.int .u32 v2,.int .u32 v3,.int .u32 v4,.int .u32 v5,.int .u32 v6,.int .u32 v7]) (.int .i64 2)).run Tryz.prog w = .ok (.int .u32 v2) w:=by
 simp [Instr.index,asIntOf,run_underlying Tryz.underlying159,go_sem]
@[local go_sem] theorem run_index_h3 (v0 v1 v2 v3 v4 v5 v6 v7:Int) (w:World):(Instr.index 159 (.agg #[.int .u32 v0,.int .u32 v1,.int .u32 v2,.int .u32 v3,.int .u32 v4,.int .u32 v5,.int .u32 v6,.int .u32 v7]) (.int .i64 3)).run Tryz.prog w = .ok (.int .u32 v3) w:=by
 simp [Instr.index,asIntOf,run_underlying Tryz.underlying159,go_sem]
@[local go_sem] theorem run_index_h4 (v0 v1 v2 v3 v4 v5 v6 v7:Int) (w:World):(Instr.index 159 (.agg #[.int .u32 v0,.int .u32 v1,.int .u32 v2,.int .u32 v3,.int .u32 v4,.int .u32 v5,.int .u32 v6,.int .u32 v7]) (.int .i64 4)).run Tryz.prog w = .ok (.int .u32 v4) w:=by
 simp [Instr.index,asIntOf,run_underlying Tryz.underlying159,go_sem]
@[local go_sem] theorem run_index_h5 (v0 v1 v2 v3 v4 v5 v6 v7:Int) (w:World):(Instr.index 159 (.agg #[.int .u32 v0,.int .u32 v1,.int .u32 v2,.int .u32 v3,.int .u32 v4,.int .u32 v5,.int .u32 v6,.int .u32 v7]) (.int .i64 5)).run Tryz.prog w = .ok (.int .u32 v5) w:=by
 simp [Instr.index,asIntOf,run_underlying Tryz.underlying159,go_sem]
@[local go_sem] theorem run_index_h6 (v0 v1 v2 v3 v4 v5 v6 v7:Int) (w:World):(Instr.index 159 (.agg #[.int .u32 v0,.int .u32 v1,.int .u32 v2,.int .u32 v3,.int .u32 v4,.int .u32 v5,.int .u32 v6,.int .u32 v7]) (.int .i64 6)).run Tryz.prog w = .ok (.int .u32 v6) w:=by
 simp [Instr.index,asIntOf,run_underlying Tryz.underlying159,go_sem]
@[local go_sem] theorem run_index_h7 (v0 v1 v2 v3 v4 v5 v6 v7:Int) (w:World):(Instr.index 159 (.agg #[.int .u32 v0,.int .u32 v1,.int .u32 v2,.int .u32 v3,.int .u32 v4,.int .u32 v5,.int .u32 v6,.int .u32 v7]) (.int .i64 7)).run Tryz.prog w = .ok (.int .u32 v7) w:=by
 simp [Instr.index,asIntOf,run_underlying Tryz.underlying159,go_sem]
theorem xd_blk {A B:World} {row:Option Nat} {b n:Nat} {cs:Array Value} {T:TypeId} (h:A.heap[n]?=some (.cells cs T (0,0))) (hg:A.grownBy B row) (hr:∀ r,row=some r->b≤r∧∃ o:Obj,A.heap[r]?=some o∧o.isCells=false):B.heap[n]?=some (.cells cs T (0,0)):=by
 rw [hg.block n (blk_lt h) (fun e=>?_)]
 ·exact h
 ·obtain ⟨_,o,ho,hc⟩:=hr n e.symm
  rw [h] at ho
  cases ho
  cases hc
theorem turn64 {g:Nat} (gh gk x:Nat) (p hs:List Int) (w:World) (hC:Kd.C (Kd.int .u8) w (some ⟨g,0,none⟩) p.length p) (hx:x+64≤p.length) (hh:hs.length=8)
  (hgh:w.heap[gh]?=some (.cells (arrU hs) 159 (0,0))) (hgk:w.heap[gk]?=some (.cells (arrU shaK) 170 (0,0))) :
  Calls Tryz.prog 159 #[.pointer (some ⟨gh,0,none⟩),.slice (some ⟨g,x,none⟩) 64 64,.pointer (some ⟨gk,0,none⟩)] w fun e w'=>e = .returned (.tuple #[])∧w.grownBy w' (some gh)∧w'.heap[gh]?=some (.cells (arrU (turned shaK (blockAt p x) hs)) 159 (0,0)):=by
 obtain ⟨h1,h2⟩:=sub_reads hC x hx
 have:=turnBlock_calls gh gk (some ⟨g,0+x,none⟩) 64 (blockAt p x) hs shaK w h1 h2 hh rfl hgh hgk
 rw [h2,Nat.zero_add] at this
 exact this
set_option maxHeartbeats 4000000 in
theorem impl_Digest.calls (A0:Option Addr) (c0:Nat) (l0:List Int) (r:ByteArray) (w:World) (hr0:Kd.C (Kd.int .u8) w A0 l0.length l0) (hc0:l0.length≤c0) (h:impl_Digest.f l0=some r) :
  Calls Tryz.prog 133 #[.slice A0 l0.length c0] w fun e w'=>e = .returned (.string r)∧Below w.heap.size w w':=by
 unfold impl_Digest.f at h
 by_cases hl:l0.length≤1099511627776
 ·rw [if_pos hl] at h
  obtain rfl:=Option.some.inj h
  clear h
  obtain ⟨kp,hkp⟩:=Ev.rounds (impl_Padded_ev l0 hl)
  have HP:=am_ hkp
  have HR:=am_ hr0
  have HC:=am_ hc0
  have HLL:=am_ hl
  clear hkp hr0 hc0 hl
  refine (callsIn_wide (n:=3)).1 ?_
  refine callsIn_of_wp_marks Tryz.func133 rfl trivial ?_ rfl
  refine wpIn_wide.2 ?_
  simp only [Tryz.ntmps133,List.size_toArray,List.length_cons,List.length_nil,Nat.reduceAdd,Nat.reduceSub,Array.replicate_succ,Array.replicate_zero,List.push_toArray,List.append_toArray,List.nil_append,List.cons_append]
  go_wp2_with (go_at_call 156;(with_reducible refine (rounds_calls _).mono ?_);rintro e w1 ⟨gk,rfl,hk1,hk2,hb1⟩;have HK1:=am_ hk1;have HK2:=am_ hk2;have HB1:=am_ hb1;clear hk1 hk2 hb1)
  have HH1:=am_ (blk_below (blk_new w _) HB1.out)
  have HB2:=am_ (show Below w.heap.size w (w1.alloc (.cells #[.pointer (some ⟨gk,0,none⟩)] 160)) from ((((Below.refl _ _).alloc (Nat.le_refl _) _).trans (HB1.out.mono (by simp))).alloc (by have:=HB1.out.size;simp at this;omega) _))
  have HH2:=am_ (blk_alloc HH1.out (.cells #[.pointer (some ⟨gk,0,none⟩)] 160))
  have HK3:=am_ (blk_alloc HK2.out (.cells #[.pointer (some ⟨gk,0,none⟩)] 160))
  have HP2:=am_ (blk_new w1 (.cells #[.pointer (some ⟨gk,0,none⟩)] 160))
  obtain ⟨gh,hgh⟩:∃ gh,w.heap.size=gh:=⟨_,rfl⟩
  obtain ⟨gb,hgb⟩:∃ gb,w1.heap.size=gb:=⟨_,rfl⟩
  have HGH:=am_ hgh
  rw [hgh] at HH2
  rw [hgb] at HP2
  simp only [hgh,hgb]
  clear hgh hgb HH1 HK2 HK1
  generalize w1.alloc (.cells #[.pointer (some ⟨gk,0,none⟩)] 160)=w2 at HB2 HH2 HK3 HP2 ⊢
  with_reducible refine (impl_Padded.calls kp _ _ l0 (padL l0) _ (Kd.C_below HR.out HB2.out) HC.out HP.out).mono ?_
  rintro e w3 ⟨vp,rfl,ho,hb3⟩
  have hplen:=padL_length l0
  have hpsz:=padL_size l0
  have hpp:0 < (padL l0).length:=by simp [padL];omega
  obtain ⟨g,cap,rfl,hg1,hg2,cs0,hcs0⟩:=Kd.R_form ho hpp
  obtain ⟨_,hcap,hC⟩:=Kd.R_reads' ho
  have HO:=am_ hC
  have HCS:=am_ hcs0
  have HB3:=am_ (HB2.out.trans (hb3.mono HB2.out.size))
  have HH3:=am_ (blk_below HH2.out hb3)
  have HK4:=am_ (blk_below HK3.out hb3)
  have HP3:=am_ (blk_below HP2.out hb3)
  have HSZ:=am_ hb3.size
  have HG:=am_ (And.intro hg1 hg2)
  have HN:=am_ (And.intro hplen (And.intro hpsz hcap))
  clear ho hb3 hg1 hg2 hcs0 hC hcap hplen hpsz hpp
  clear HB2 HH2 HK3 HP2
  go_wp2_with (go_at_call 157;(refine (callsIn_wide.1 (chunk_in Fence.wide 1 trivial rfl _ _ _ _)).mono ?_);rintro e w4 ⟨rfl,rfl⟩)
  rename_i hKz _
  have HKz:=am_ hKz
  clear hKz
  obtain ⟨w4,hw4⟩:∃ w4,(w3.alloc (.cells #[.slice (some ⟨g,0,none⟩) (padL l0).length cap] 27)).alloc (.cells #[.int .i64 64] 3)=w4:=⟨_,rfl⟩
  have hb4:Below w3.heap.size w3 w4:=by rw [← hw4];exact ((Below.refl _ _).alloc (Nat.le_refl _) _).alloc (by simp) _
  have hsz4:w4.heap.size=w3.heap.size+2:=by rw [← hw4];simp
  have HBs:w4.cell? ⟨w3.heap.size,0,none⟩=some (.slice (some ⟨g,0,none⟩) (padL l0).length cap):=by
   rw [← hw4]
   simp
  have HBn:w4.cell? ⟨w3.heap.size+1,0,none⟩=some (.int .i64 64):=by
   rw [← hw4]
   simp
  have hC4:=Kd.C_below HO.out hb4
  have hcs4:=blk_below HCS.out hb4
  have hgh4:=blk_below HH3.out hb4
  have hgk4:=blk_below HK4.out hb4
  have hgb4:=blk_below HP3.out hb4
  have hB4:Below w.heap.size w w4:=HB3.out.trans (hb4.mono HB3.out.size)
  rw [hw4]
  clear hw4
  have hN:=HN.out
  have hm:(padL l0).length=64 * ((padL l0).length / 64):=by omega
  refine (wpIn_wide (n:=3)).1 ?_
  refine wpIn_rangeFunc_ownF rfl (by omega) (gf:=169) (lb:=#[.pointer (some ⟨w3.heap.size,0,none⟩),.pointer (some ⟨w3.heap.size+1,0,none⟩)]) rfl trivial (enters_of Tryz.func169 (by kernel_rfl) rfl)
   (chunk_stops Fence.wide _ trivial rfl (by omega) w3.heap.size (w3.heap.size+1) w4.heap.size gh g 0 cap ((padL l0).length / 64) (padL l0).length hm hN.2.2 (by have:=HLL.out;omega) (by have:=blk_lt hcs4;omega) (by omega) (by omega) (by have:=blk_lt HH3.out;omega) (by have:=blk_lt HH3.out;omega) w4 (Nat.le_refl _) HBs HBn)
   BelowBut.trans (BelowBut.putObj (Nat.le_refl _)) (Below.refl _ _) (fun _=>rfl)
   (fun pre W=>(Aside0 (W.heap[gh]?=some (.cells (arrU (foldAt (padL l0) (pre.map (·.1)))) 159 (0,0)))∧Aside0 (W.heap[gk]?=some (.cells (arrU shaK) 170 (0,0)))∧Aside0 (W.heap[gb]?=some (.cells #[.pointer (some ⟨gk,0,none⟩)] 160 (0,0)))∧Aside0 (W.heap[g]?=some (.cells cs0 5 (0,0)))∧Aside0 (w4.heap.size≤W.heap.size))∧Below w.heap.size w W)
   (fun _ _ _=>False)
   ?own (fun c=>?ownx) ?h0
   (fun x=>{ tmps:=#[Value.slice A0 l0.length c0,undef,.string ⟨#[]⟩,.pointer (some ⟨gh,0,none⟩),.pointer (some ⟨gb,0,none⟩),Value.slice (some ⟨g,x.1,none⟩) 64 64,undef,undef,undef,.agg #[.int .u32 1779033703,.int .u32 3144134277,.int .u32 1013904242,.int .u32 2773480762,.int .u32 1359893119,.int .u32 2600822924,.int .u32 528734635,.int .u32 1541459225],.pointer (some ⟨gk,0,none⟩),.slice A0 l0.length c0,.slice (some ⟨g,0,none⟩) (padL l0).length cap,.func (.func 169) #[] #[.pointer (some ⟨w3.heap.size,0,none⟩),.pointer (some ⟨w3.heap.size+1,0,none⟩)],Value.slice (some ⟨g,x.1,none⟩) 64 64,undef,undef,undef,undef,undef,undef,undef,undef,undef,undef,undef,undef,undef,undef,undef,undef,undef,undef,undef,undef,undef,undef,undef,undef],defers:=[] }) ?assign ?body ?done ?stop
  case assign =>
   intro l x W K hK
   clear hm hN
   gi_wp2_with (rw [Oper.semAt_eq _ _ _ (fun c h=>by cases h)];go_simp;try go_bits)
   exact hK
  case body =>
   rintro l pre x W ⟨⟨hh,hk,hb,hc,hs⟩,hB⟩ _
   clear hm hN
   have cb:W.cell? ⟨gb,0,none⟩=some (.pointer (some ⟨gk,0,none⟩)):=blk_cell hb.out 0
   have hcx:Kd.C (Kd.int .u8) W (some ⟨g,0,none⟩) (padL l0).length (padL l0):=C_at hC4 (hc.out.trans hcs4.symm)
   have HCX:=am_ hcx
   clear hcx hC4
   gi_wp2_with (rw [Oper.semAt_eq _ _ _ (fun c h=>by cases h)];go_simp;try go_bits)
   refine ⟨trivial,?_⟩
   have HT:=turn64 (g:=g) gh gk x.1 (padL l0) (foldAt (padL l0) (pre.map (·.1))) W HCX.out x.2 (foldAt_length _ _) hh.out hk.out
   refine CallsIn.mono (CallsIn.inRound l (callsIn_wide.2 HT)) ?_
   rintro e W' ⟨rfl,hg',hn'⟩
   gi_wp2
   have hb0:BelowBut w4.heap.size gh W W':=BelowBut.grown hg' hs.out
   have hsz:=hs.out
   have hl1:=blk_lt hgk4
   have hl2:=blk_lt hgb4
   have hl3:=blk_lt hcs4
   have n1:gk ≠ gh:=blk_ne hk.out hh.out (by decide)
   have n2:gb ≠ gh:=blk_ne hb.out hh.out (by decide)
   have n3:g ≠ gh:=blk_ne hc.out hh.out (by decide)
   refine ⟨KeepsOthers.of_grownBy hg' (fun j o hj ho=>by cases hj;rw [hh.out] at ho;cases ho;rfl),hb0,⟨⟨?_⟩,⟨?_⟩,⟨?_⟩,⟨?_⟩,⟨?_⟩⟩,?_⟩
   ·rw [List.map_append,List.map_cons,List.map_nil,foldAt_snoc]
    exact hn'
   ·exact (hb0.block gk hl1 n1).trans hk.out
   ·exact (hb0.block gb hl2 n2).trans hb.out
   ·exact (hb0.block g hl3 n3).trans hc.out
   ·exact Nat.le_trans hsz hb0.size
   ·exact hB.grown hg' (Nat.le_trans hB4.size hsz) (fun k e=>by cases e;have:=HGH.out;omega)
  case own =>
   refine OwnFrom.and (fun s A B row hs hg hr=>⟨⟨xd_blk hs.1.out hg hr⟩,⟨xd_blk hs.2.1.out hg hr⟩,⟨xd_blk hs.2.2.1.out hg hr⟩,⟨xd_blk hs.2.2.2.1.out hg hr⟩,⟨Nat.le_trans hs.2.2.2.2.out hg.size⟩⟩) (ownFrom_below (Nat.le_refl _) hB4.size)
  case ownx => exact fun s A B row hs hg hr=>hs
  case h0 => exact ⟨⟨⟨hgh4⟩,⟨hgk4⟩,⟨hgb4⟩,⟨hcs4⟩,⟨Nat.le_refl _⟩⟩,hB4⟩
  case stop => exact fun D c pre W _ _ hx=>hx.elim
  case done =>
   rintro D xs W hD hS ⟨⟨hh,_,_,_,hs⟩,hB⟩ hK
   clear hm hN hC4 hcs4 hgh4 hgk4 hgb4 hB4 HBs HBn
   refine HKz.out _ _ ?_
   clear HKz
   obtain ⟨v0,v1,v2,v3,v4,v5,v6,v7,hv⟩:=eight (foldAt_length (padL l0) (starts ((padL l0).length / 64)))
   rw [hS,hv] at hh
   have c0:W.cell? ⟨gh,0,none⟩=some (.int .u32 v0):=blk_cell hh.out 0
   have c1:W.cell? ⟨gh,1,none⟩=some (.int .u32 v1):=blk_cell hh.out 1
   have c2:W.cell? ⟨gh,2,none⟩=some (.int .u32 v2):=blk_cell hh.out 2
   have c3:W.cell? ⟨gh,3,none⟩=some (.int .u32 v3):=blk_cell hh.out 3
   have c4:W.cell? ⟨gh,4,none⟩=some (.int .u32 v4):=blk_cell hh.out 4
   have c5:W.cell? ⟨gh,5,none⟩=some (.int .u32 v5):=blk_cell hh.out 5
   have c6:W.cell? ⟨gh,6,none⟩=some (.int .u32 v6):=blk_cell hh.out 6
   have c7:W.cell? ⟨gh,7,none⟩=some (.int .u32 v7):=blk_cell hh.out 7
   have HV:=am_ hv
   have HD:=am_ hD
   have HKD:=am_ hK
   have HBB:=am_ hB
   have HS4:=am_ hsz4
   clear hv hD hK hB hS hsz4 hb4
   go_wp2
   have HL:=am_ (And.intro hh.out hs.out)
   clear c0 c1 c2 c3 c4 c5 c6 c7 hh hs
   obtain ⟨W0,hW0⟩:∃ W0:World,W=W0:=⟨_,rfl⟩
   go_loopw [6,19] (fun x6 x19 W'=>∃ k:Nat,k≤8∧x19 = .int .i64 k∧Aside0 (Kd.R (Kd.int .u8) 5 W' W.heap.size (fun _=>True) x6 (outBytes [v0,v1,v2,v3,v4,v5,v6,v7] k))∧Aside0 (Below W.heap.size W W')) (fun _ x19 _=>8 - (intOf x19).toNat)
   case atStart => exact ⟨0,by omega,rfl,⟨Kd.R_nil _ _ _ _ _⟩,⟨Below.refl _ _⟩⟩
   case round =>
    obtain ⟨k,hk,rfl,HR1,HB1⟩:=hrel
    by_cases hlt:k < 8
    ·have hk8:k=0∨k=1∨k=2∨k=3∨k=4∨k=5∨k=6∨k=7:=by omega
     clear hk hlt
     rcases hk8 with rfl|rfl|rfl|rfl|rfl|rfl|rfl|rfl
     ·go_wp2_with (first
       | ((with_reducible refine gate_dst (N:=34) rfl ?_);refine Kd.R_lit (Kd.int .u8) _ 5 ?hg (N:=34) ?hd (xs:=wordBytes v0) (inner:=[.int .u8 (v0 / 16777216 % 256),.int .u8 (v0 / 65536 % 256),.int .u8 (v0 / 256 % 256),.int .u8 (v0 % 256)]) (ok:=fun _=>True) (okp:=fun _=>True) ?hr ?hp (fun _ hk=>hk) trivial (Below.refl _ _) (Nat.le_refl _) (by simp [wordBytes]) ?_;(case hd=>rfl);(case hg=>rfl);(case hr=>first|(go_simp;done)|(go_simp;rfl));(case hp=>exact Reps.one (show Kd.M (Kd.int .u8) _ _ _ (v0 / 16777216 % 256) [.int .u8 (v0 / 16777216 % 256)] from rfl) (Reps.one (show Kd.M (Kd.int .u8) _ _ _ (v0 / 65536 % 256) [.int .u8 (v0 / 65536 % 256)] from rfl) (Reps.one (show Kd.M (Kd.int .u8) _ _ _ (v0 / 256 % 256) [.int .u8 (v0 / 256 % 256)] from rfl) (Reps.one (show Kd.M (Kd.int .u8) _ _ _ (v0 % 256) [.int .u8 (v0 % 256)] from rfl) (Reps.none _ _)))));intro vl wl ho hb hg_ hn_;clear hg_ hn_;have n0:=am_ (Kd.R_elder' HR1.out (Kd.R_base ho) hb);have n1:=am_ (Kd.R_lower (Kd.R_new' ho (Kd.R_lt HR1.out)) (below_size HB1.out));have n2:=am_ (below_step HB1.out hb);clear HR1 HB1 ho hb;have HR1:=n0;have HO1:=n1;have HB1:=n2;clear n0 n1 n2;obtain ⟨Ao,co,eo⟩:=Kd.R_slice HO1.out;subst eo)
       | ((with_reducible refine gate_builtin (b:=.append) (xs:=#[.tmp 22,.tmp 34]) rfl ?_);at_builtin;refine Kd.R_append_rows (Kd.int .u8) (w0:=W) W.heap.size rfl (.tmp 22) (.tmp 34) 27 5 (.int .u8 0) 1 rfl Tryz.underlying27 info5 rfl (by decide) (by omega) u6 (outBytes [v0,v1,v2,v3,v4,v5,v6,v7] 0) (wordBytes v0) _ _ _ (fun k_=>some k_ ≠ (.slice Ao (wordBytes v0).length co:Value).ownBlock) (fun _=>False) rfl rfl (Kd.R_mono HR1.out (fun _ hk=>hk.2)) (Kd.R_reads' HO1.out).2.2 (fun _ _ h=>h) (fun _ h=>h.elim) (fun k_ hk=>Kd.fresh' (Kd.R_lt HO1.out) k_ hk) HB1.out (below_size HB1.out) (by simp [outBytes,wordBytes]) ?_;intro va wa ho hb hg_ hn_;clear hg_ hn_))
      go_roundw
      case rel => exact ⟨1,by omega,by go_num,⟨Kd.R_mono ho (fun _ _=>trivial)⟩,⟨hb⟩⟩
      case measure => simp [intOf]
     ·go_wp2_with (first
       | ((with_reducible refine gate_dst (N:=34) rfl ?_);refine Kd.R_lit (Kd.int .u8) _ 5 ?hg (N:=34) ?hd (xs:=wordBytes v1) (inner:=[.int .u8 (v1 / 16777216 % 256),.int .u8 (v1 / 65536 % 256),.int .u8 (v1 / 256 % 256),.int .u8 (v1 % 256)]) (ok:=fun _=>True) (okp:=fun _=>True) ?hr ?hp (fun _ hk=>hk) trivial (Below.refl _ _) (Nat.le_refl _) (by simp [wordBytes]) ?_;(case hd=>rfl);(case hg=>rfl);(case hr=>first|(go_simp;done)|(go_simp;rfl));(case hp=>exact Reps.one (show Kd.M (Kd.int .u8) _ _ _ (v1 / 16777216 % 256) [.int .u8 (v1 / 16777216 % 256)] from rfl) (Reps.one (show Kd.M (Kd.int .u8) _ _ _ (v1 / 65536 % 256) [.int .u8 (v1 / 65536 % 256)] from rfl) (Reps.one (show Kd.M (Kd.int .u8) _ _ _ (v1 / 256 % 256) [.int .u8 (v1 / 256 % 256)] from rfl) (Reps.one (show Kd.M (Kd.int .u8) _ _ _ (v1 % 256) [.int .u8 (v1 % 256)] from rfl) (Reps.none _ _)))));intro vl wl ho hb hg_ hn_;clear hg_ hn_;have n0:=am_ (Kd.R_elder' HR1.out (Kd.R_base ho) hb);have n1:=am_ (Kd.R_lower (Kd.R_new' ho (Kd.R_lt HR1.out)) (below_size HB1.out));have n2:=am_ (below_step HB1.out hb);clear HR1 HB1 ho hb;have HR1:=n0;have HO1:=n1;have HB1:=n2;clear n0 n1 n2;obtain ⟨Ao,co,eo⟩:=Kd.R_slice HO1.out;subst eo)
       | ((with_reducible refine gate_builtin (b:=.append) (xs:=#[.tmp 22,.tmp 34]) rfl ?_);at_builtin;refine Kd.R_append_rows (Kd.int .u8) (w0:=W) W.heap.size rfl (.tmp 22) (.tmp 34) 27 5 (.int .u8 0) 1 rfl Tryz.underlying27 info5 rfl (by decide) (by omega) u6 (outBytes [v0,v1,v2,v3,v4,v5,v6,v7] 1) (wordBytes v1) _ _ _ (fun k_=>some k_ ≠ (.slice Ao (wordBytes v1).length co:Value).ownBlock) (fun _=>False) rfl rfl (Kd.R_mono HR1.out (fun _ hk=>hk.2)) (Kd.R_reads' HO1.out).2.2 (fun _ _ h=>h) (fun _ h=>h.elim) (fun k_ hk=>Kd.fresh' (Kd.R_lt HO1.out) k_ hk) HB1.out (below_size HB1.out) (by simp [outBytes,wordBytes]) ?_;intro va wa ho hb hg_ hn_;clear hg_ hn_))
      go_roundw
      case rel => exact ⟨2,by omega,by go_num,⟨Kd.R_mono ho (fun _ _=>trivial)⟩,⟨hb⟩⟩
      case measure => simp [intOf]
     ·go_wp2_with (first
       | ((with_reducible refine gate_dst (N:=34) rfl ?_);refine Kd.R_lit (Kd.int .u8) _ 5 ?hg (N:=34) ?hd (xs:=wordBytes v2) (inner:=[.int .u8 (v2 / 16777216 % 256),.int .u8 (v2 / 65536 % 256),.int .u8 (v2 / 256 % 256),.int .u8 (v2 % 256)]) (ok:=fun _=>True) (okp:=fun _=>True) ?hr ?hp (fun _ hk=>hk) trivial (Below.refl _ _) (Nat.le_refl _) (by simp [wordBytes]) ?_;(case hd=>rfl);(case hg=>rfl);(case hr=>first|(go_simp;done)|(go_simp;rfl));(case hp=>exact Reps.one (show Kd.M (Kd.int .u8) _ _ _ (v2 / 16777216 % 256) [.int .u8 (v2 / 16777216 % 256)] from rfl) (Reps.one (show Kd.M (Kd.int .u8) _ _ _ (v2 / 65536 % 256) [.int .u8 (v2 / 65536 % 256)] from rfl) (Reps.one (show Kd.M (Kd.int .u8) _ _ _ (v2 / 256 % 256) [.int .u8 (v2 / 256 % 256)] from rfl) (Reps.one (show Kd.M (Kd.int .u8) _ _ _ (v2 % 256) [.int .u8 (v2 % 256)] from rfl) (Reps.none _ _)))));intro vl wl ho hb hg_ hn_;clear hg_ hn_;have n0:=am_ (Kd.R_elder' HR1.out (Kd.R_base ho) hb);have n1:=am_ (Kd.R_lower (Kd.R_new' ho (Kd.R_lt HR1.out)) (below_size HB1.out));have n2:=am_ (below_step HB1.out hb);clear HR1 HB1 ho hb;have HR1:=n0;have HO1:=n1;have HB1:=n2;clear n0 n1 n2;obtain ⟨Ao,co,eo⟩:=Kd.R_slice HO1.out;subst eo)
       | ((with_reducible refine gate_builtin (b:=.append) (xs:=#[.tmp 22,.tmp 34]) rfl ?_);at_builtin;refine Kd.R_append_rows (Kd.int .u8) (w0:=W) W.heap.size rfl (.tmp 22) (.tmp 34) 27 5 (.int .u8 0) 1 rfl Tryz.underlying27 info5 rfl (by decide) (by omega) u6 (outBytes [v0,v1,v2,v3,v4,v5,v6,v7] 2) (wordBytes v2) _ _ _ (fun k_=>some k_ ≠ (.slice Ao (wordBytes v2).length co:Value).ownBlock) (fun _=>False) rfl rfl (Kd.R_mono HR1.out (fun _ hk=>hk.2)) (Kd.R_reads' HO1.out).2.2 (fun _ _ h=>h) (fun _ h=>h.elim) (fun k_ hk=>Kd.fresh' (Kd.R_lt HO1.out) k_ hk) HB1.out (below_size HB1.out) (by simp [outBytes,wordBytes]) ?_;intro va wa ho hb hg_ hn_;clear hg_ hn_))
      go_roundw
      case rel => exact ⟨3,by omega,by go_num,⟨Kd.R_mono ho (fun _ _=>trivial)⟩,⟨hb⟩⟩
      case measure => simp [intOf]
     ·go_wp2_with (first
       | ((with_reducible refine gate_dst (N:=34) rfl ?_);refine Kd.R_lit (Kd.int .u8) _ 5 ?hg (N:=34) ?hd (xs:=wordBytes v3) (inner:=[.int .u8 (v3 / 16777216 % 256),.int .u8 (v3 / 65536 % 256),.int .u8 (v3 / 256 % 256),.int .u8 (v3 % 256)]) (ok:=fun _=>True) (okp:=fun _=>True) ?hr ?hp (fun _ hk=>hk) trivial (Below.refl _ _) (Nat.le_refl _) (by simp [wordBytes]) ?_;(case hd=>rfl);(case hg=>rfl);(case hr=>first|(go_simp;done)|(go_simp;rfl));(case hp=>exact Reps.one (show Kd.M (Kd.int .u8) _ _ _ (v3 / 16777216 % 256) [.int .u8 (v3 / 16777216 % 256)] from rfl) (Reps.one (show Kd.M (Kd.int .u8) _ _ _ (v3 / 65536 % 256) [.int .u8 (v3 / 65536 % 256)] from rfl) (Reps.one (show Kd.M (Kd.int .u8) _ _ _ (v3 / 256 % 256) [.int .u8 (v3 / 256 % 256)] from rfl) (Reps.one (show Kd.M (Kd.int .u8) _ _ _ (v3 % 256) [.int .u8 (v3 % 256)] from rfl) (Reps.none _ _)))));intro vl wl ho hb hg_ hn_;clear hg_ hn_;have n0:=am_ (Kd.R_elder' HR1.out (Kd.R_base ho) hb);have n1:=am_ (Kd.R_lower (Kd.R_new' ho (Kd.R_lt HR1.out)) (below_size HB1.out));have n2:=am_ (below_step HB1.out hb);clear HR1 HB1 ho hb;have HR1:=n0;have HO1:=n1;have HB1:=n2;clear n0 n1 n2;obtain ⟨Ao,co,eo⟩:=Kd.R_slice HO1.out;subst eo)
       | ((with_reducible refine gate_builtin (b:=.append) (xs:=#[.tmp 22,.tmp 34]) rfl ?_);at_builtin;refine Kd.R_append_rows (Kd.int .u8) (w0:=W) W.heap.size rfl (.tmp 22) (.tmp 34) 27 5 (.int .u8 0) 1 rfl Tryz.underlying27 info5 rfl (by decide) (by omega) u6 (outBytes [v0,v1,v2,v3,v4,v5,v6,v7] 3) (wordBytes v3) _ _ _ (fun k_=>some k_ ≠ (.slice Ao (wordBytes v3).length co:Value).ownBlock) (fun _=>False) rfl rfl (Kd.R_mono HR1.out (fun _ hk=>hk.2)) (Kd.R_reads' HO1.out).2.2 (fun _ _ h=>h) (fun _ h=>h.elim) (fun k_ hk=>Kd.fresh' (Kd.R_lt HO1.out) k_ hk) HB1.out (below_size HB1.out) (by simp [outBytes,wordBytes]) ?_;intro va wa ho hb hg_ hn_;clear hg_ hn_))
      go_roundw
      case rel => exact ⟨4,by omega,by go_num,⟨Kd.R_mono ho (fun _ _=>trivial)⟩,⟨hb⟩⟩
      case measure => simp [intOf]
     ·go_wp2_with (first
       | ((with_reducible refine gate_dst (N:=34) rfl ?_);refine Kd.R_lit (Kd.int .u8) _ 5 ?hg (N:=34) ?hd (xs:=wordBytes v4) (inner:=[.int .u8 (v4 / 16777216 % 256),.int .u8 (v4 / 65536 % 256),.int .u8 (v4 / 256 % 256),.int .u8 (v4 % 256)]) (ok:=fun _=>True) (okp:=fun _=>True) ?hr ?hp (fun _ hk=>hk) trivial (Below.refl _ _) (Nat.le_refl _) (by simp [wordBytes]) ?_;(case hd=>rfl);(case hg=>rfl);(case hr=>first|(go_simp;done)|(go_simp;rfl));(case hp=>exact Reps.one (show Kd.M (Kd.int .u8) _ _ _ (v4 / 16777216 % 256) [.int .u8 (v4 / 16777216 % 256)] from rfl) (Reps.one (show Kd.M (Kd.int .u8) _ _ _ (v4 / 65536 % 256) [.int .u8 (v4 / 65536 % 256)] from rfl) (Reps.one (show Kd.M (Kd.int .u8) _ _ _ (v4 / 256 % 256) [.int .u8 (v4 / 256 % 256)] from rfl) (Reps.one (show Kd.M (Kd.int .u8) _ _ _ (v4 % 256) [.int .u8 (v4 % 256)] from rfl) (Reps.none _ _)))));intro vl wl ho hb hg_ hn_;clear hg_ hn_;have n0:=am_ (Kd.R_elder' HR1.out (Kd.R_base ho) hb);have n1:=am_ (Kd.R_lower (Kd.R_new' ho (Kd.R_lt HR1.out)) (below_size HB1.out));have n2:=am_ (below_step HB1.out hb);clear HR1 HB1 ho hb;have HR1:=n0;have HO1:=n1;have HB1:=n2;clear n0 n1 n2;obtain ⟨Ao,co,eo⟩:=Kd.R_slice HO1.out;subst eo)
       | ((with_reducible refine gate_builtin (b:=.append) (xs:=#[.tmp 22,.tmp 34]) rfl ?_);at_builtin;refine Kd.R_append_rows (Kd.int .u8) (w0:=W) W.heap.size rfl (.tmp 22) (.tmp 34) 27 5 (.int .u8 0) 1 rfl Tryz.underlying27 info5 rfl (by decide) (by omega) u6 (outBytes [v0,v1,v2,v3,v4,v5,v6,v7] 4) (wordBytes v4) _ _ _ (fun k_=>some k_ ≠ (.slice Ao (wordBytes v4).length co:Value).ownBlock) (fun _=>False) rfl rfl (Kd.R_mono HR1.out (fun _ hk=>hk.2)) (Kd.R_reads' HO1.out).2.2 (fun _ _ h=>h) (fun _ h=>h.elim) (fun k_ hk=>Kd.fresh' (Kd.R_lt HO1.out) k_ hk) HB1.out (below_size HB1.out) (by simp [outBytes,wordBytes]) ?_;intro va wa ho hb hg_ hn_;clear hg_ hn_))
      go_roundw
      case rel => exact ⟨5,by omega,by go_num,⟨Kd.R_mono ho (fun _ _=>trivial)⟩,⟨hb⟩⟩
      case measure => simp [intOf]
     ·go_wp2_with (first
       | ((with_reducible refine gate_dst (N:=34) rfl ?_);refine Kd.R_lit (Kd.int .u8) _ 5 ?hg (N:=34) ?hd (xs:=wordBytes v5) (inner:=[.int .u8 (v5 / 16777216 % 256),.int .u8 (v5 / 65536 % 256),.int .u8 (v5 / 256 % 256),.int .u8 (v5 % 256)]) (ok:=fun _=>True) (okp:=fun _=>True) ?hr ?hp (fun _ hk=>hk) trivial (Below.refl _ _) (Nat.le_refl _) (by simp [wordBytes]) ?_;(case hd=>rfl);(case hg=>rfl);(case hr=>first|(go_simp;done)|(go_simp;rfl));(case hp=>exact Reps.one (show Kd.M (Kd.int .u8) _ _ _ (v5 / 16777216 % 256) [.int .u8 (v5 / 16777216 % 256)] from rfl) (Reps.one (show Kd.M (Kd.int .u8) _ _ _ (v5 / 65536 % 256) [.int .u8 (v5 / 65536 % 256)] from rfl) (Reps.one (show Kd.M (Kd.int .u8) _ _ _ (v5 / 256 % 256) [.int .u8 (v5 / 256 % 256)] from rfl) (Reps.one (show Kd.M (Kd.int .u8) _ _ _ (v5 % 256) [.int .u8 (v5 % 256)] from rfl) (Reps.none _ _)))));intro vl wl ho hb hg_ hn_;clear hg_ hn_;have n0:=am_ (Kd.R_elder' HR1.out (Kd.R_base ho) hb);have n1:=am_ (Kd.R_lower (Kd.R_new' ho (Kd.R_lt HR1.out)) (below_size HB1.out));have n2:=am_ (below_step HB1.out hb);clear HR1 HB1 ho hb;have HR1:=n0;have HO1:=n1;have HB1:=n2;clear n0 n1 n2;obtain ⟨Ao,co,eo⟩:=Kd.R_slice HO1.out;subst eo)
       | ((with_reducible refine gate_builtin (b:=.append) (xs:=#[.tmp 22,.tmp 34]) rfl ?_);at_builtin;refine Kd.R_append_rows (Kd.int .u8) (w0:=W) W.heap.size rfl (.tmp 22) (.tmp 34) 27 5 (.int .u8 0) 1 rfl Tryz.underlying27 info5 rfl (by decide) (by omega) u6 (outBytes [v0,v1,v2,v3,v4,v5,v6,v7] 5) (wordBytes v5) _ _ _ (fun k_=>some k_ ≠ (.slice Ao (wordBytes v5).length co:Value).ownBlock) (fun _=>False) rfl rfl (Kd.R_mono HR1.out (fun _ hk=>hk.2)) (Kd.R_reads' HO1.out).2.2 (fun _ _ h=>h) (fun _ h=>h.elim) (fun k_ hk=>Kd.fresh' (Kd.R_lt HO1.out) k_ hk) HB1.out (below_size HB1.out) (by simp [outBytes,wordBytes]) ?_;intro va wa ho hb hg_ hn_;clear hg_ hn_))
      go_roundw
      case rel => exact ⟨6,by omega,by go_num,⟨Kd.R_mono ho (fun _ _=>trivial)⟩,⟨hb⟩⟩
      case measure => simp [intOf]
     ·go_wp2_with (first
       | ((with_reducible refine gate_dst (N:=34) rfl ?_);refine Kd.R_lit (Kd.int .u8) _ 5 ?hg (N:=34) ?hd (xs:=wordBytes v6) (inner:=[.int .u8 (v6 / 16777216 % 256),.int .u8 (v6 / 65536 % 256),.int .u8 (v6 / 256 % 256),.int .u8 (v6 % 256)]) (ok:=fun _=>True) (okp:=fun _=>True) ?hr ?hp (fun _ hk=>hk) trivial (Below.refl _ _) (Nat.le_refl _) (by simp [wordBytes]) ?_;(case hd=>rfl);(case hg=>rfl);(case hr=>first|(go_simp;done)|(go_simp;rfl));(case hp=>exact Reps.one (show Kd.M (Kd.int .u8) _ _ _ (v6 / 16777216 % 256) [.int .u8 (v6 / 16777216 % 256)] from rfl) (Reps.one (show Kd.M (Kd.int .u8) _ _ _ (v6 / 65536 % 256) [.int .u8 (v6 / 65536 % 256)] from rfl) (Reps.one (show Kd.M (Kd.int .u8) _ _ _ (v6 / 256 % 256) [.int .u8 (v6 / 256 % 256)] from rfl) (Reps.one (show Kd.M (Kd.int .u8) _ _ _ (v6 % 256) [.int .u8 (v6 % 256)] from rfl) (Reps.none _ _)))));intro vl wl ho hb hg_ hn_;clear hg_ hn_;have n0:=am_ (Kd.R_elder' HR1.out (Kd.R_base ho) hb);have n1:=am_ (Kd.R_lower (Kd.R_new' ho (Kd.R_lt HR1.out)) (below_size HB1.out));have n2:=am_ (below_step HB1.out hb);clear HR1 HB1 ho hb;have HR1:=n0;have HO1:=n1;have HB1:=n2;clear n0 n1 n2;obtain ⟨Ao,co,eo⟩:=Kd.R_slice HO1.out;subst eo)
       | ((with_reducible refine gate_builtin (b:=.append) (xs:=#[.tmp 22,.tmp 34]) rfl ?_);at_builtin;refine Kd.R_append_rows (Kd.int .u8) (w0:=W) W.heap.size rfl (.tmp 22) (.tmp 34) 27 5 (.int .u8 0) 1 rfl Tryz.underlying27 info5 rfl (by decide) (by omega) u6 (outBytes [v0,v1,v2,v3,v4,v5,v6,v7] 6) (wordBytes v6) _ _ _ (fun k_=>some k_ ≠ (.slice Ao (wordBytes v6).length co:Value).ownBlock) (fun _=>False) rfl rfl (Kd.R_mono HR1.out (fun _ hk=>hk.2)) (Kd.R_reads' HO1.out).2.2 (fun _ _ h=>h) (fun _ h=>h.elim) (fun k_ hk=>Kd.fresh' (Kd.R_lt HO1.out) k_ hk) HB1.out (below_size HB1.out) (by simp [outBytes,wordBytes]) ?_;intro va wa ho hb hg_ hn_;clear hg_ hn_))
      go_roundw
      case rel => exact ⟨7,by omega,by go_num,⟨Kd.R_mono ho (fun _ _=>trivial)⟩,⟨hb⟩⟩
      case measure => simp [intOf]
     ·go_wp2_with (first
       | ((with_reducible refine gate_dst (N:=34) rfl ?_);refine Kd.R_lit (Kd.int .u8) _ 5 ?hg (N:=34) ?hd (xs:=wordBytes v7) (inner:=[.int .u8 (v7 / 16777216 % 256),.int .u8 (v7 / 65536 % 256),.int .u8 (v7 / 256 % 256),.int .u8 (v7 % 256)]) (ok:=fun _=>True) (okp:=fun _=>True) ?hr ?hp (fun _ hk=>hk) trivial (Below.refl _ _) (Nat.le_refl _) (by simp [wordBytes]) ?_;(case hd=>rfl);(case hg=>rfl);(case hr=>first|(go_simp;done)|(go_simp;rfl));(case hp=>exact Reps.one (show Kd.M (Kd.int .u8) _ _ _ (v7 / 16777216 % 256) [.int .u8 (v7 / 16777216 % 256)] from rfl) (Reps.one (show Kd.M (Kd.int .u8) _ _ _ (v7 / 65536 % 256) [.int .u8 (v7 / 65536 % 256)] from rfl) (Reps.one (show Kd.M (Kd.int .u8) _ _ _ (v7 / 256 % 256) [.int .u8 (v7 / 256 % 256)] from rfl) (Reps.one (show Kd.M (Kd.int .u8) _ _ _ (v7 % 256) [.int .u8 (v7 % 256)] from rfl) (Reps.none _ _)))));intro vl wl ho hb hg_ hn_;clear hg_ hn_;have n0:=am_ (Kd.R_elder' HR1.out (Kd.R_base ho) hb);have n1:=am_ (Kd.R_lower (Kd.R_new' ho (Kd.R_lt HR1.out)) (below_size HB1.out));have n2:=am_ (below_step HB1.out hb);clear HR1 HB1 ho hb;have HR1:=n0;have HO1:=n1;have HB1:=n2;clear n0 n1 n2;obtain ⟨Ao,co,eo⟩:=Kd.R_slice HO1.out;subst eo)
       | ((with_reducible refine gate_builtin (b:=.append) (xs:=#[.tmp 22,.tmp 34]) rfl ?_);at_builtin;refine Kd.R_append_rows (Kd.int .u8) (w0:=W) W.heap.size rfl (.tmp 22) (.tmp 34) 27 5 (.int .u8 0) 1 rfl Tryz.underlying27 info5 rfl (by decide) (by omega) u6 (outBytes [v0,v1,v2,v3,v4,v5,v6,v7] 7) (wordBytes v7) _ _ _ (fun k_=>some k_ ≠ (.slice Ao (wordBytes v7).length co:Value).ownBlock) (fun _=>False) rfl rfl (Kd.R_mono HR1.out (fun _ hk=>hk.2)) (Kd.R_reads' HO1.out).2.2 (fun _ _ h=>h) (fun _ h=>h.elim) (fun k_ hk=>Kd.fresh' (Kd.R_lt HO1.out) k_ hk) HB1.out (below_size HB1.out) (by simp [outBytes,wordBytes]) ?_;intro va wa ho hb hg_ hn_;clear hg_ hn_))
      go_roundw
      case rel => exact ⟨8,by omega,by go_num,⟨Kd.R_mono ho (fun _ _=>trivial)⟩,⟨hb⟩⟩
      case measure => simp [intOf]
    ·obtain rfl:k=8:=by omega
     have b20:decide (((8:Nat):Int) < 8)=false:=by decide
     have hcv:=own_string (P:=Tryz.prog) Tryz.underlying27 Tryz.underlying5 Tryz.underlying9 (Kd.own_of_R HR1.out)
     go_wp2
     have hK':wr.heap[D]?=some (.deferred (some [])):=(HB1.out.block D (Array.getElem?_eq_some_iff.1 HKD.out).1).trans HKD.out
     refine ⟨by simp,.inl ⟨_,_,rfl,run_takeDeferred hK',?_⟩⟩
     have hsha:sha l0=strOfNums (outBytes [v0,v1,v2,v3,v4,v5,v6,v7] 8):=by
      rw [sha,shaBytes,HV.out]
     have hBz:Below w.heap.size w (wr.putObj D (.deferred none)):=by
      have hsz:=HBB.out.size
      have hD:=HD.out
      have h1:Below w.heap.size w wr:=HBB.out.trans (HB1.out.mono hsz)
      have h2:=HL.out.2
      have h3:=HB3.out.size
      have h4:=HS4.out
      exact h1.trans (belowK_b (w:=w) (Nat.le_refl _) wr D _ _ (by omega) hK' rfl rfl)
     rw [hsha]
     refine ⟨.string (strOfNums (outBytes [v0,v1,v2,v3,v4,v5,v6,v7] 8)),?_,rfl,hBz⟩
     simp [results,Tryz.f133,go_sem]
 ·rw [if_neg hl] at h
  cases h
end Go.Proofs.YtnlndmoecljicaaGreat.Q
end
