-- Joined and shortened by a program of this session (wip/tools/shakecopy.py): the words of the print,texts of pp.sh and of mine.
import Derived.Test.YtnlndmoecljicaaGreatKFnCrashed5
import Derived.Test.YtnlndmoecljicaaGreatRows
import Derived.WalkKit
import Derived.ProofKit
import Derived.OpenShut
import Derived.ShutString
import Derived.ChangeOld
import Derived.Below
import Derived.SizedLaws
import Derived.Carry
set_option linter.unusedVariables false
set_option linter.unusedSimpArgs false
section
namespace Go.Proofs.YtnlndmoecljicaaGreat.Q
open Go.Proofs.YtnlndmoecljicaaGreatW.PrintLast Go.Proofs.YtnlndmoecljicaaGreatW.PrintMore Go.Proofs.YtnlndmoecljicaaGreatW.PrintWords Go.RowKit
attribute [local go_sem] max2_int min2_int max_two min_two max_three min_three max_four min_four
set_option maxHeartbeats 8000000
set_option maxRecDepth 100000
def impl_CrashMirror.f (k:Nat) (a:Int) (l:List ByteArray) (b:Int) (c:ByteArray) (d:List Int) (e f:Int) (z:ByteArray) (t:List S37) (keep:Int):Option (Int × List ByteArray × Int × ByteArray × List Int × Int × Int × ByteArray × Int) :=
 (impl_copyMirror.f a l b c d e f z).bind fun m=>((impl_MirrorOk.f k a l b c d e f z t).bind fun q=>(if q=true then ((impl_FallStore.f m.2.1 m.2.2.1 m.2.2.2.1 m.2.2.2.2.1 m.2.2.2.2.2.1 keep).bind fun y=>((impl_OpenStore.f k t y).bind fun s=>some (m.1,s.1,s.2.1,s.2.2.1,s.2.2.2.1,s.2.2.2.2.1,s.2.1,s.2.2.1,s.2.2.2.2.2))) else some (m.1,m.2.1,m.2.2.1,m.2.2.2.1,m.2.2.2.2.1,m.2.2.2.2.2.1,m.2.2.2.2.2.2.1,m.2.2.2.2.2.2.2, -1)))
theorem so9_ {A B C D E F G H I:Type} {x0 y0:A} {x1 y1:B} {x2 y2:C} {x3 y3:D} {x4 y4:E} {x5 y5:F} {x6 y6:G} {x7 y7:H} {x8 y8:I} (H:some (x0,x1,x2,x3,x4,x5,x6,x7,x8)=some (y0,y1,y2,y3,y4,y5,y6,y7,y8)):x0=y0∧x1=y1∧x2=y2∧x3=y3∧x4=y4∧x5=y5∧x6=y6∧x7=y7∧x8=y8:=by cases H;exact ⟨rfl,rfl,rfl,rfl,rfl,rfl,rfl,rfl,rfl⟩
theorem crash_calls (k g:Nat) (a:Int) (A1:Option Addr) (c1:Nat) (l:List ByteArray) (b:Int) (c:ByteArray) (A4:Option Addr) (c4:Nat) (d:List Int) (e f:Int) (z:ByteArray) (A0:Option Addr) (c0:Nat) (t:List S37) (keep:Int) (y:List Int) (s1:List ByteArray) (s2:Int) (s3:ByteArray) (s4:List Int) (s5 s6:Int) (w0 w:World)
  (hg:w0.heap.size≤g) (hbk:w.heap[g]?=some (.cells #[.int .i64 a,.slice A1 l.length c1,.int .i64 b,.string c,.slice A4 d.length c4,.int .i64 e,.int .i64 f,.string z] 43 (0,0))) (hO:Kd.C Kd.string w A1 l.length l) (hO1:l.length≤c1) (hP:Kd.C (Kd.int .u8) w A4 d.length d) (hP1:d.length≤c4) (hT:Kd.C k37 w A0 t.length t) (hT1:t.length≤c0) (hB:Below w0.heap.size w0 w)
  (h1:impl_FallStore.f l b c d e keep=some y) (h2:impl_OpenStore.f k t y=some (s1,s2,s3,s4,s5,s6)) :
  Calls Tryz.prog 55 #[.pointer (some ⟨g,0,none⟩),.slice A0 t.length c0,.int .i64 keep] w fun e' w'=>e' = .returned (.int .i64 s6)∧∃ (Av:Option Addr) (cv:Nat) (Au:Option Addr) (cu:Nat),Kd.R Kd.string 9 w' w0.heap.size (fun _=>True) (.slice Av s1.length cv) s1∧Kd.R (Kd.int .u8) 5 w' w0.heap.size (fun _=>True) (.slice Au s4.length cu) s4∧w'.heap[g]?=some (.cells #[.int .i64 a,.slice Av s1.length cv,.int .i64 s2,.string s3,.slice Au s4.length cu,.int .i64 s5,.int .i64 s2,.string s3] 43 (0,0))∧Below w0.heap.size w0 w'∧Kept w w' (fun k_=>k_=g):=by
 have hu43:=Tryz.underlying43
 have hu41:=Tryz.underlying41
 have hu39:=Tryz.underlying39
 have hu37:=Tryz.underlying37
 have HO:=am_ hO
 have HO1:=am_ hO1
 have HP:=am_ hP
 have HP1:=am_ hP1
 have HT:=am_ hT
 have HT1:=am_ hT1
 have HB:=am_ hB
 have BG:=am_ hbk
 have GE:=am_ hg
 have HKP:=am_ (Kept.refl w (fun k_=>k_=g))
 have AF:=am_ h1
 have AS:=am_ h2
 clear hO hO1 hP hP1 hT hT1 hB hbk hg h1 h2
 have hBG_0:=bc0_ BG.out;have fBG_0:=blk_frozen BG.out 0;have hBG_1:=bc1_ BG.out;have fBG_1:=blk_frozen BG.out 1;have hBG_2:=bc2_ BG.out;have fBG_2:=blk_frozen BG.out 2;have hBG_3:=bc3_ BG.out;have fBG_3:=blk_frozen BG.out 3;have hBG_4:=bc4_ BG.out;have fBG_4:=blk_frozen BG.out 4;have hBG_5:=bc5_ BG.out;have fBG_5:=blk_frozen BG.out 5;have hBG_6:=bc6_ BG.out;have fBG_6:=blk_frozen BG.out 6;have hBG_7:=bc7_ BG.out;have fBG_7:=blk_frozen BG.out 7
 go_enter Tryz.func55,Tryz.ntmps55
 go_wp2_with (first|((with_reducible refine gq_ 92 16 ?_);refine gc_ 16 Tryz.func92 (impl_FallStore.calls _ _ l b c _ _ d e keep y _ HO.out HO1.out HP.out HP1.out AF.out) ?_;rintro e w1 ⟨v1,rfl,ho,hb⟩;refine ⟨_,rfl,?_⟩;have HY:=rlo_ ho HB;replace HB:=ss_ HB hb;replace BG:=kl_ BG hb;replace HT:=am_ (Kd.C_below HT.out hb);replace HKP:=am_ (Kept.below HKP.out hb);clear hb ho hBG_0 fBG_0 hBG_1 fBG_1 hBG_2 fBG_2 hBG_3 fBG_3 hBG_4 fBG_4 hBG_5 fBG_5 hBG_6 fBG_6 hBG_7 fBG_7;obtain ⟨Ay,cy,ey⟩:=Kd.R_slice HY.out;subst ey)|((with_reducible refine gq_ 91 17 ?_);refine gc_ 17 Tryz.func91 (impl_OpenStore.calls k _ _ t _ _ y s1 s2 s3 s4 s5 s6 _ HT.out HT1.out (ch_ HY) (cl_ HY) AS.out) ?_;rintro e w2 ⟨v2,v3,rfl,ho,hp,hb⟩;refine ⟨_,rfl,?_⟩;have HV:=rlo_ ho HB;have HU:=rlo_ hp HB;replace HB:=ss_ HB hb;replace BG:=kl_ BG hb;replace HKP:=am_ (Kept.below HKP.out hb);clear hb ho hp HY HT;obtain ⟨Av,cv,ev⟩:=Kd.R_slice HV.out;subst ev;obtain ⟨Au,cu,eu⟩:=Kd.R_slice HU.out;subst eu)|((with_reducible refine gd_ 7 ?_);refine x41_ 7 ?_;intro gs hg w3 hbox hb;have BS:=am_ hbox;have GS:=gg_ hg HB;have GSW:=am_ (gz_ hg HKP.out.1);have NGS:=nla_ hg BG;have NSG:=am_ NGS.out.symm;replace HB:=ss_ HB hb;replace BG:=kl_ BG hb;replace HV:=rb_ HV hb;replace HU:=rb_ HU hb;replace HKP:=am_ (Kept.below HKP.out hb);clear hb hbox hg;have hBS_0:=bc0_ BS.out;have fBS_0:=blk_frozen BS.out 0;have hBS_1:=bc1_ BS.out;have fBS_1:=blk_frozen BS.out 1;have hBS_2:=bc2_ BS.out;have fBS_2:=blk_frozen BS.out 2;have hBS_3:=bc3_ BS.out;have fBS_3:=blk_frozen BS.out 3;have hBS_4:=bc4_ BS.out;have fBS_4:=blk_frozen BS.out 4))
 clear hBS_0 fBS_0 hBS_1 fBS_1 hBS_2 fBS_2 hBS_3 fBS_3 hBS_4 fBS_4
 obtain ⟨w4,hw_⟩:∃ w4:World,w4=(((((w3.setCell ⟨gs,0,none⟩ (.slice Av s1.length cv)).setCell ⟨gs,1,none⟩ (.int .i64 s2)).setCell ⟨gs,2,none⟩ (.string s3)).setCell ⟨gs,3,none⟩ (.slice Au s4.length cu)).setCell ⟨gs,4,none⟩ (.int .i64 s5)):=⟨_,rfl⟩
 rw [← hw_]
 replace HV:=am_ (show Kd.R Kd.string 9 w4 w0.heap.size _ _ _ from by rw [hw_];exact kf_ HV BS)
 replace HU:=am_ (show Kd.R (Kd.int .u8) 5 w4 w0.heap.size _ _ _ from by rw [hw_];exact kf_ HU BS)
 have BS_:Aside0 (w4.heap[gs]?=some (.cells #[.slice Av s1.length cv,.int .i64 s2,.string s3,.slice Au s4.length cu,.int .i64 s5] 41 (0,0))):=⟨by rw [hw_];exact kq_ BS⟩
 have BG_:Aside0 (w4.heap[g]?=some (.cells #[.int .i64 a,.slice A1 l.length c1,.int .i64 b,.string c,.slice A4 d.length c4,.int .i64 e,.int .i64 f,.string z] 43 (0,0))):=⟨by rw [hw_];exact kq_ BG⟩
 replace HB:=am_ (show Below w0.heap.size w0 w4 from by rw [hw_];exact bw_ HB)
 replace HKP:=am_ (show Kept w w4 (fun k_=>k_=g) from by rw [hw_];exact Kept.setCell (Kept.setCell (Kept.setCell (Kept.setCell (Kept.setCell (HKP.out) (.inr GSW.out) _) (.inr GSW.out) _) (.inr GSW.out) _) (.inr GSW.out) _) (.inr GSW.out) _)
 clear hw_ BS BG
 have BS:=BS_;have BG:=BG_;clear BS_ BG_
 replace BS:=bd_ BS
 replace BG:=bd_ BG
 replace HV:=am_ (Kd.R_drew HV.out)
 replace HU:=am_ (Kd.R_drew HU.out)
 replace HB:=hd_ HB
 replace HKP:=am_ (Kept.drew HKP.out)
 refine start_ (n:=12) (S:=fun w'=>w'.cell? ⟨gs,0,none⟩=some (.slice Av s1.length cv)∧w'.cell? ⟨gs,1,none⟩=some (.int .i64 s2)∧w'.cell? ⟨gs,2,none⟩=some (.string s3)∧w'.cell? ⟨gs,3,none⟩=some (.slice Au s4.length cu)∧w'.cell? ⟨gs,4,none⟩=some (.int .i64 s5)) (ds:=[]) (lz_ 12 0) (by kernel_rfl) rfl rfl ⟨bc0_ BS.out,bc1_ BS.out,bc2_ BS.out,bc3_ BS.out,bc4_ BS.out⟩ (fun hHeld=>?_)
 generalize w4.drew=w5 at BS BG HV HU HB HKP hHeld ⊢
 refine pk_ 0 20 1 ?_
 refine pk_ 1 21 3 ?_
 refine pk_ 3 23 11 ?_
 refine pk_ 4 24 27 ?_
 refine tk_ 2 22 31 ?_
 refine tk_ 5 25 63 ?_
 refine pk_ 6 26 127 ?_
 refine pk_ 7 27 255 ?_
 refine one_ (i:=8) (N:=none) (lz_ 12 511) rfl rfl (by kernel_rfl) (by decide) (fun K hK=>?_)
 have hBG_0:=bc0_ BG.out
 have fBG_0:=blk_frozen BG.out 0
 have hBG_1:=bc1_ BG.out
 have fBG_1:=blk_frozen BG.out 1
 have hBG_2:=bc2_ BG.out
 have fBG_2:=blk_frozen BG.out 2
 have hBG_3:=bc3_ BG.out
 have fBG_3:=blk_frozen BG.out 3
 have hBG_4:=bc4_ BG.out
 have fBG_4:=blk_frozen BG.out 4
 have hBG_5:=bc5_ BG.out
 have fBG_5:=blk_frozen BG.out 5
 have hBG_6:=bc6_ BG.out
 have fBG_6:=blk_frozen BG.out 6
 have hBG_7:=bc7_ BG.out
 have fBG_7:=blk_frozen BG.out 7
 have hn:=NGS.out
 have hn2:=NGS.out.symm
 refine skip_ (w1:=?_) (by rfl) rfl ?_ ?_
 rotate_left
 ·go_simp
  rfl
 clear hBG_0 fBG_0 hBG_1 fBG_1 hBG_2 fBG_2 hBG_3 fBG_3 hBG_4 fBG_4 hBG_5 fBG_5 hBG_6 fBG_6 hBG_7 fBG_7 hn hn2
 obtain ⟨w6,hw_⟩:∃ w6:World,w6=(((((w5.setCell ⟨g,1,none⟩ (.slice Av s1.length cv)).setCell ⟨g,2,none⟩ (.int .i64 s2)).setCell ⟨g,3,none⟩ (.string s3)).setCell ⟨g,4,none⟩ (.slice Au s4.length cu)).setCell ⟨g,5,none⟩ (.int .i64 s5)):=⟨_,rfl⟩
 rw [← hw_]
 replace HV:=am_ (show Kd.R Kd.string 9 w6 w0.heap.size _ _ _ from by rw [hw_];exact kf_ HV BG)
 replace HU:=am_ (show Kd.R (Kd.int .u8) 5 w6 w0.heap.size _ _ _ from by rw [hw_];exact kf_ HU BG)
 have BG_:Aside0 (w6.heap[g]?=some (.cells #[.int .i64 a,.slice Av s1.length cv,.int .i64 s2,.string s3,.slice Au s4.length cu,.int .i64 s5,.int .i64 f,.string z] 43 (0,0))):=⟨by rw [hw_];exact kq_ BG⟩
 have BS_:Aside0 (w6.heap[gs]?=some (.cells #[.slice Av s1.length cv,.int .i64 s2,.string s3,.slice Au s4.length cu,.int .i64 s5] 41 (0,0))):=⟨by rw [hw_];exact kq_ BS⟩
 replace HB:=am_ (show Below w0.heap.size w0 w6 from by rw [hw_];exact bw_ HB)
 replace HKP:=am_ (show Kept w w6 (fun k_=>k_=g) from by rw [hw_];exact Kept.setCell (Kept.setCell (Kept.setCell (Kept.setCell (Kept.setCell (HKP.out) (.inl rfl) _) (.inl rfl) _) (.inl rfl) _) (.inl rfl) _) (.inl rfl) _)
 clear hw_ BS BG
 have BS:=BS_;have BG:=BG_;clear BS_ BG_
 refine hK.out _ _ ⟨bc0_ BS.out,bc1_ BS.out,bc2_ BS.out,bc3_ BS.out,bc4_ BS.out⟩ (fun hHeld=>?_)
 clear hK K
 refine pk_ 9 28 1023 ?_
 refine pk_ 10 29 2047 ?_
 refine one_ (i:=11) (N:=none) (lz_ 12 4095) rfl rfl (by kernel_rfl) (by decide) (fun K hK=>?_)
 have hBG_0:=bc0_ BG.out
 have fBG_0:=blk_frozen BG.out 0
 have hBG_1:=bc1_ BG.out
 have fBG_1:=blk_frozen BG.out 1
 have hBG_2:=bc2_ BG.out
 have fBG_2:=blk_frozen BG.out 2
 have hBG_3:=bc3_ BG.out
 have fBG_3:=blk_frozen BG.out 3
 have hBG_4:=bc4_ BG.out
 have fBG_4:=blk_frozen BG.out 4
 have hBG_5:=bc5_ BG.out
 have fBG_5:=blk_frozen BG.out 5
 have hBG_6:=bc6_ BG.out
 have fBG_6:=blk_frozen BG.out 6
 have hBG_7:=bc7_ BG.out
 have fBG_7:=blk_frozen BG.out 7
 have hn:=NGS.out
 have hn2:=NGS.out.symm
 refine skip_ (w1:=?_) (by rfl) rfl ?_ ?_
 rotate_left
 ·go_simp
  rfl
 clear hBG_0 fBG_0 hBG_1 fBG_1 hBG_2 fBG_2 hBG_3 fBG_3 hBG_4 fBG_4 hBG_5 fBG_5 hBG_6 fBG_6 hBG_7 fBG_7 hn hn2
 obtain ⟨w7,hw_⟩:∃ w7:World,w7=((w6.setCell ⟨g,6,none⟩ (.int .i64 s2)).setCell ⟨g,7,none⟩ (.string s3)):=⟨_,rfl⟩
 rw [← hw_]
 replace HV:=am_ (show Kd.R Kd.string 9 w7 w0.heap.size _ _ _ from by rw [hw_];exact kf_ HV BG)
 replace HU:=am_ (show Kd.R (Kd.int .u8) 5 w7 w0.heap.size _ _ _ from by rw [hw_];exact kf_ HU BG)
 have BG_:Aside0 (w7.heap[g]?=some (.cells #[.int .i64 a,.slice Av s1.length cv,.int .i64 s2,.string s3,.slice Au s4.length cu,.int .i64 s5,.int .i64 s2,.string s3] 43 (0,0))):=⟨by rw [hw_];exact kq_ BG⟩
 have BS_:Aside0 (w7.heap[gs]?=some (.cells #[.slice Av s1.length cv,.int .i64 s2,.string s3,.slice Au s4.length cu,.int .i64 s5] 41 (0,0))):=⟨by rw [hw_];exact kq_ BS⟩
 replace HB:=am_ (show Below w0.heap.size w0 w7 from by rw [hw_];exact bw_ HB)
 replace HKP:=am_ (show Kept w w7 (fun k_=>k_=g) from by rw [hw_];exact Kept.setCell (Kept.setCell (HKP.out) (.inl rfl) _) (.inl rfl) _)
 clear hw_ BS BG
 have BS:=BS_;have BG:=BG_;clear BS_ BG_
 refine hK.out _ _ ⟨bc0_ BS.out,bc1_ BS.out,bc2_ BS.out,bc3_ BS.out,bc4_ BS.out⟩ (fun hHeld=>?_)
 clear hK K
 refine done_ (by kernel_rfl) ?_
 try go_wp2
 go_ret
 exact ⟨rfl,Av,cv,Au,cu,HV.out,HU.out,BG.out,HB.out,HKP.out⟩
theorem impl_CrashMirror.calls (k:Nat) (a:Int) (A1:Option Addr) (c1:Nat) (l:List ByteArray) (b:Int) (c:ByteArray) (A4:Option Addr) (c4:Nat) (d:List Int) (e f:Int) (z:ByteArray) (A0:Option Addr) (c0:Nat) (t:List S37) (keep:Int) (r1:Int) (r2:List ByteArray) (r3:Int) (r4:ByteArray) (r5:List Int) (r6 r7:Int) (r8:ByteArray) (r9:Int) (w:World)
  (hr1:Kd.C Kd.string w A1 l.length l) (hc1:l.length≤c1) (hr4:Kd.C (Kd.int .u8) w A4 d.length d) (hc4:d.length≤c4) (hT:Kd.C k37 w A0 t.length t) (hT1:t.length≤c0) (h:impl_CrashMirror.f k a l b c d e f z t keep=some (r1,r2,r3,r4,r5,r6,r7,r8,r9)) :
  Calls Tryz.prog 24 #[.agg #[.int .i64 a,.slice A1 l.length c1,.int .i64 b,.string c,.slice A4 d.length c4,.int .i64 e,.int .i64 f,.string z],.slice A0 t.length c0,.int .i64 keep] w fun e w'=>∃ v1_ v4_:Value,e = .returned (.tuple #[.agg #[.int .i64 r1,v1_,.int .i64 r3,.string r4,v4_,.int .i64 r6,.int .i64 r7,.string r8],.int .i64 r9])∧Kd.R Kd.string 9 w' w.heap.size (fun _=>True) v1_ r2∧Kd.R (Kd.int .u8) 5 w' w.heap.size (fun _=>True) v4_ r5∧Below w.heap.size w w':=by
 have hu43:=Tryz.underlying43
 have HR1:=am_ hr1
 have HC1:=am_ hc1
 have HR4:=am_ hr4
 have HC4:=am_ hc4
 have HT:=am_ hT
 have HT1:=am_ hT1
 have HB:=h0_ w
 unfold impl_CrashMirror.f at h
 replace h:=bi_ h;obtain ⟨⟨q1,q2,q3,q4,q5,q6,q7,q8⟩,AC,h⟩:=h
 dsimp only at h
 replace h:=bi_ h;obtain ⟨q,AO,h⟩:=h
 clear hr1 hc1 hr4 hc4 hT hT1
 cases q with
 | false =>
  rw [if_neg (by simp)] at h
  replace h:=so9_ h;obtain ⟨rfl,rfl,rfl,rfl,rfl,rfl,rfl,rfl,rfl⟩:=h
  go_enter Tryz.func24,Tryz.ntmps24
  go_wp2_with (first|((with_reducible refine gd_ 3 ?_);refine bx_ 3 43 #[.int .i64 a,.slice A1 l.length c1,.int .i64 b,.string c,.slice A4 d.length c4,.int .i64 e,.int .i64 f,.string z] ?_;intro gB2 hg wbB2 hbox hb;have B2:=am_ hbox;have GB2:=gg_ hg HB;replace HB:=ss_ HB hb;clear hb hbox hg)|((with_reducible refine gd_ 6 ?_);refine x43_ 6 ?_;intro gB4 hg wbB4 hbox hb;have B4:=am_ hbox;have GB4:=gg_ hg HB;have N24:=nla_ hg B2;replace HB:=ss_ HB hb;replace B2:=kl_ B2 hb;clear hb hbox hg;have hB2_0:=bc0_ B2.out;have fB2_0:=blk_frozen B2.out 0;have hB2_1:=bc1_ B2.out;have fB2_1:=blk_frozen B2.out 1;have hB2_2:=bc2_ B2.out;have fB2_2:=blk_frozen B2.out 2;have hB2_3:=bc3_ B2.out;have fB2_3:=blk_frozen B2.out 3;have hB2_4:=bc4_ B2.out;have fB2_4:=blk_frozen B2.out 4;have hB2_5:=bc5_ B2.out;have fB2_5:=blk_frozen B2.out 5;have hB2_6:=bc6_ B2.out;have fB2_6:=blk_frozen B2.out 6;have hB2_7:=bc7_ B2.out;have fB2_7:=blk_frozen B2.out 7)|((with_reducible refine gq_ 54 11 ?_);refine gc_ 11 Tryz.func54 (impl_copyMirror.calls a _ _ l b c _ _ d e f z q1 q2 q3 q4 q5 q6 q7 q8 _ (cb_ HR1 HB) HC1.out (cb_ HR4 HB) HC4.out AC.out) ?_;rintro e w4 ⟨v0,v3,rfl,ho,hp,hb⟩;refine ⟨_,rfl,?_⟩;have HO:=rlo_ ho HB;have HP:=rlo_ hp HB;replace HB:=ss_ HB hb;replace B2:=kl_ B2 hb;replace B4:=kl_ B4 hb;clear hb ho hp hB2_0 fB2_0 hB2_1 fB2_1 hB2_2 fB2_2 hB2_3 fB2_3 hB2_4 fB2_4 hB2_5 fB2_5 hB2_6 fB2_6 hB2_7 fB2_7;obtain ⟨Ao,co,eo⟩:=Kd.R_slice HO.out;subst eo;obtain ⟨Ap,cp,ep⟩:=Kd.R_slice HP.out;subst ep)|((with_reducible refine gd_ 8 ?_);refine x43_ 8 ?_;intro gB5 hg wbB5 hbox hb;have B5:=am_ hbox;have GB5:=gg_ hg HB;have N25:=nla_ hg B2;have N45:=nla_ hg B4;replace HB:=ss_ HB hb;replace B2:=kl_ B2 hb;replace B4:=kl_ B4 hb;replace HO:=rb_ HO hb;replace HP:=rb_ HP hb;clear hb hbox hg;have hB2_0:=bc0_ B2.out;have fB2_0:=blk_frozen B2.out 0;have hB2_1:=bc1_ B2.out;have fB2_1:=blk_frozen B2.out 1;have hB2_2:=bc2_ B2.out;have fB2_2:=blk_frozen B2.out 2;have hB2_3:=bc3_ B2.out;have fB2_3:=blk_frozen B2.out 3;have hB2_4:=bc4_ B2.out;have fB2_4:=blk_frozen B2.out 4;have hB2_5:=bc5_ B2.out;have fB2_5:=blk_frozen B2.out 5;have hB2_6:=bc6_ B2.out;have fB2_6:=blk_frozen B2.out 6;have hB2_7:=bc7_ B2.out;have fB2_7:=blk_frozen B2.out 7;have hB5_0:=bc0_ B5.out;have fB5_0:=blk_frozen B5.out 0;have hB5_1:=bc1_ B5.out;have fB5_1:=blk_frozen B5.out 1;have hB5_2:=bc2_ B5.out;have fB5_2:=blk_frozen B5.out 2;have hB5_3:=bc3_ B5.out;have fB5_3:=blk_frozen B5.out 3;have hB5_4:=bc4_ B5.out;have fB5_4:=blk_frozen B5.out 4;have hB5_5:=bc5_ B5.out;have fB5_5:=blk_frozen B5.out 5;have hB5_6:=bc6_ B5.out;have fB5_6:=blk_frozen B5.out 6;have hB5_7:=bc7_ B5.out;have fB5_7:=blk_frozen B5.out 7;have hn:=N25.out;have hn2:=N25.out.symm)|((with_reducible refine gq_ 27 14 ?_);refine gc_ 14 Tryz.func27 (impl_MirrorOk.calls k a _ _ l b c _ _ d e f z _ _ t false _ (Kd.C_below HR1.out (bw_ HB)) HC1.out (Kd.C_below HR4.out (bw_ HB)) HC4.out (Kd.C_below HT.out (bw_ HB)) HT1.out AO.out) ?_;rintro e w6 ⟨rfl,hb⟩;refine ⟨_,rfl,?_⟩;replace HO:=rbf_ HO B5 hb;replace HP:=rbf_ HP B5 hb;replace HB:=ss_ HB hb;replace B4:=kp_ B4 hb;replace B5:=kp_ B5 hb;clear hb hB2_0 fB2_0 hB2_1 fB2_1 hB2_2 fB2_2 hB2_3 fB2_3 hB2_4 fB2_4 hB2_5 fB2_5 hB2_6 fB2_6 hB2_7 fB2_7 hB5_0 fB5_0 hB5_1 fB5_1 hB5_2 fB5_2 hB5_3 fB5_3 hB5_4 fB5_4 hB5_5 fB5_5 hB5_6 fB5_6 hB5_7 fB5_7 hn hn2 N25;have hB5_0:=bc0_ B5.out;have fB5_0:=blk_frozen B5.out 0;have hB5_1:=bc1_ B5.out;have fB5_1:=blk_frozen B5.out 1;have hB5_2:=bc2_ B5.out;have fB5_2:=blk_frozen B5.out 2;have hB5_3:=bc3_ B5.out;have fB5_3:=blk_frozen B5.out 3;have hB5_4:=bc4_ B5.out;have fB5_4:=blk_frozen B5.out 4;have hB5_5:=bc5_ B5.out;have fB5_5:=blk_frozen B5.out 5;have hB5_6:=bc6_ B5.out;have fB5_6:=blk_frozen B5.out 6;have hB5_7:=bc7_ B5.out;have fB5_7:=blk_frozen B5.out 7;have hB4_0:=bc0_ B4.out;have fB4_0:=blk_frozen B4.out 0;have hB4_1:=bc1_ B4.out;have fB4_1:=blk_frozen B4.out 1;have hB4_2:=bc2_ B4.out;have fB4_2:=blk_frozen B4.out 2;have hB4_3:=bc3_ B4.out;have fB4_3:=blk_frozen B4.out 3;have hB4_4:=bc4_ B4.out;have fB4_4:=blk_frozen B4.out 4;have hB4_5:=bc5_ B4.out;have fB4_5:=blk_frozen B4.out 5;have hB4_6:=bc6_ B4.out;have fB4_6:=blk_frozen B4.out 6;have hB4_7:=bc7_ B4.out;have fB4_7:=blk_frozen B4.out 7;have hn:=N45.out;have hn2:=N45.out.symm))
  refine bodyPost_ret (rct_ gB4 43 #[.int .i64 q1,.slice Ao q2.length co,.int .i64 q3,.string q4,.slice Ap q5.length cp,.int .i64 q6,.int .i64 q7,.string q8] B4 Tryz.underlying43) rfl ?_
  exact ⟨_,_,rfl,kf_ HO B4,kf_ HP B4,bw_ HB⟩
 | true =>
  rw [if_pos rfl] at h
  replace h:=bi_ h;obtain ⟨y,AF,h⟩:=h
  replace h:=bi_ h;obtain ⟨⟨s1,s2,s3,s4,s5,s6⟩,AS,h⟩:=h
  dsimp only at h AF AS
  replace h:=so9_ h;obtain ⟨rfl,rfl,rfl,rfl,rfl,rfl,rfl,rfl,rfl⟩:=h
  go_enter Tryz.func24,Tryz.ntmps24
  go_wp2_with (first|((with_reducible refine gd_ 3 ?_);refine bx_ 3 43 #[.int .i64 a,.slice A1 l.length c1,.int .i64 b,.string c,.slice A4 d.length c4,.int .i64 e,.int .i64 f,.string z] ?_;intro gB2 hg wbB2 hbox hb;have B2:=am_ hbox;have GB2:=gg_ hg HB;replace HB:=ss_ HB hb;clear hb hbox hg)|((with_reducible refine gd_ 6 ?_);refine x43_ 6 ?_;intro gB4 hg wbB4 hbox hb;have B4:=am_ hbox;have GB4:=gg_ hg HB;have N24:=nla_ hg B2;replace HB:=ss_ HB hb;replace B2:=kl_ B2 hb;clear hb hbox hg;have hB2_0:=bc0_ B2.out;have fB2_0:=blk_frozen B2.out 0;have hB2_1:=bc1_ B2.out;have fB2_1:=blk_frozen B2.out 1;have hB2_2:=bc2_ B2.out;have fB2_2:=blk_frozen B2.out 2;have hB2_3:=bc3_ B2.out;have fB2_3:=blk_frozen B2.out 3;have hB2_4:=bc4_ B2.out;have fB2_4:=blk_frozen B2.out 4;have hB2_5:=bc5_ B2.out;have fB2_5:=blk_frozen B2.out 5;have hB2_6:=bc6_ B2.out;have fB2_6:=blk_frozen B2.out 6;have hB2_7:=bc7_ B2.out;have fB2_7:=blk_frozen B2.out 7)|((with_reducible refine gq_ 54 11 ?_);refine gc_ 11 Tryz.func54 (impl_copyMirror.calls a _ _ l b c _ _ d e f z q1 q2 q3 q4 q5 q6 q7 q8 _ (cb_ HR1 HB) HC1.out (cb_ HR4 HB) HC4.out AC.out) ?_;rintro e w4 ⟨v0,v3,rfl,ho,hp,hb⟩;refine ⟨_,rfl,?_⟩;have HO:=rlo_ ho HB;have HP:=rlo_ hp HB;replace HB:=ss_ HB hb;replace B2:=kl_ B2 hb;replace B4:=kl_ B4 hb;clear hb ho hp hB2_0 fB2_0 hB2_1 fB2_1 hB2_2 fB2_2 hB2_3 fB2_3 hB2_4 fB2_4 hB2_5 fB2_5 hB2_6 fB2_6 hB2_7 fB2_7;obtain ⟨Ao,co,eo⟩:=Kd.R_slice HO.out;subst eo;obtain ⟨Ap,cp,ep⟩:=Kd.R_slice HP.out;subst ep)|((with_reducible refine gd_ 8 ?_);refine x43_ 8 ?_;intro gB5 hg wbB5 hbox hb;have B5:=am_ hbox;have GB5:=gg_ hg HB;have N25:=nla_ hg B2;have N45:=nla_ hg B4;replace HB:=ss_ HB hb;replace B2:=kl_ B2 hb;replace B4:=kl_ B4 hb;replace HO:=rb_ HO hb;replace HP:=rb_ HP hb;clear hb hbox hg;have hB2_0:=bc0_ B2.out;have fB2_0:=blk_frozen B2.out 0;have hB2_1:=bc1_ B2.out;have fB2_1:=blk_frozen B2.out 1;have hB2_2:=bc2_ B2.out;have fB2_2:=blk_frozen B2.out 2;have hB2_3:=bc3_ B2.out;have fB2_3:=blk_frozen B2.out 3;have hB2_4:=bc4_ B2.out;have fB2_4:=blk_frozen B2.out 4;have hB2_5:=bc5_ B2.out;have fB2_5:=blk_frozen B2.out 5;have hB2_6:=bc6_ B2.out;have fB2_6:=blk_frozen B2.out 6;have hB2_7:=bc7_ B2.out;have fB2_7:=blk_frozen B2.out 7;have hB5_0:=bc0_ B5.out;have fB5_0:=blk_frozen B5.out 0;have hB5_1:=bc1_ B5.out;have fB5_1:=blk_frozen B5.out 1;have hB5_2:=bc2_ B5.out;have fB5_2:=blk_frozen B5.out 2;have hB5_3:=bc3_ B5.out;have fB5_3:=blk_frozen B5.out 3;have hB5_4:=bc4_ B5.out;have fB5_4:=blk_frozen B5.out 4;have hB5_5:=bc5_ B5.out;have fB5_5:=blk_frozen B5.out 5;have hB5_6:=bc6_ B5.out;have fB5_6:=blk_frozen B5.out 6;have hB5_7:=bc7_ B5.out;have fB5_7:=blk_frozen B5.out 7;have hn:=N25.out;have hn2:=N25.out.symm)|((with_reducible refine gq_ 27 14 ?_);refine gc_ 14 Tryz.func27 (impl_MirrorOk.calls k a _ _ l b c _ _ d e f z _ _ t true _ (Kd.C_below HR1.out (bw_ HB)) HC1.out (Kd.C_below HR4.out (bw_ HB)) HC4.out (Kd.C_below HT.out (bw_ HB)) HT1.out AO.out) ?_;rintro e w6 ⟨rfl,hb⟩;refine ⟨_,rfl,?_⟩;replace HO:=rbf_ HO B5 hb;replace HP:=rbf_ HP B5 hb;replace HB:=ss_ HB hb;replace B4:=kp_ B4 hb;replace B5:=kp_ B5 hb;clear hb hB2_0 fB2_0 hB2_1 fB2_1 hB2_2 fB2_2 hB2_3 fB2_3 hB2_4 fB2_4 hB2_5 fB2_5 hB2_6 fB2_6 hB2_7 fB2_7 hB5_0 fB5_0 hB5_1 fB5_1 hB5_2 fB5_2 hB5_3 fB5_3 hB5_4 fB5_4 hB5_5 fB5_5 hB5_6 fB5_6 hB5_7 fB5_7 hn hn2 N25;have hB5_0:=bc0_ B5.out;have fB5_0:=blk_frozen B5.out 0;have hB5_1:=bc1_ B5.out;have fB5_1:=blk_frozen B5.out 1;have hB5_2:=bc2_ B5.out;have fB5_2:=blk_frozen B5.out 2;have hB5_3:=bc3_ B5.out;have fB5_3:=blk_frozen B5.out 3;have hB5_4:=bc4_ B5.out;have fB5_4:=blk_frozen B5.out 4;have hB5_5:=bc5_ B5.out;have fB5_5:=blk_frozen B5.out 5;have hB5_6:=bc6_ B5.out;have fB5_6:=blk_frozen B5.out 6;have hB5_7:=bc7_ B5.out;have fB5_7:=blk_frozen B5.out 7;have hB4_0:=bc0_ B4.out;have fB4_0:=blk_frozen B4.out 0;have hB4_1:=bc1_ B4.out;have fB4_1:=blk_frozen B4.out 1;have hB4_2:=bc2_ B4.out;have fB4_2:=blk_frozen B4.out 2;have hB4_3:=bc3_ B4.out;have fB4_3:=blk_frozen B4.out 3;have hB4_4:=bc4_ B4.out;have fB4_4:=blk_frozen B4.out 4;have hB4_5:=bc5_ B4.out;have fB4_5:=blk_frozen B4.out 5;have hB4_6:=bc6_ B4.out;have fB4_6:=blk_frozen B4.out 6;have hB4_7:=bc7_ B4.out;have fB4_7:=blk_frozen B4.out 7;have hn:=N45.out;have hn2:=N45.out.symm)|((with_reducible refine gq_ 55 19 ?_);refine gc_ 19 Tryz.func55 (crash_calls k gB5 _ _ _ q2 q3 q4 _ _ q5 q6 _ _ _ _ t keep y s1 s2 s3 s4 s5 s6 w _ GB5.out B5.out (ch_ HO) (cl_ HO) (ch_ HP) (cl_ HP) (Kd.C_below HT.out (bw_ HB)) HT1.out HB.out AF.out AS.out) ?_;rintro e w7 ⟨rfl,Av,cv,Au,cu,ho,hp,hbk,hb,hk⟩;refine ⟨_,rfl,?_⟩;replace B4:=am_ (blk_kept B4.out hk (fun e_=>N45.out e_));replace B5:=am_ hbk;replace HB:=am_ hb;replace HO:=am_ ho;replace HP:=am_ hp;clear hb hbk ho hp hk hn hn2 hB4_0 fB4_0 hB4_1 fB4_1 hB4_2 fB4_2 hB4_3 fB4_3 hB4_4 fB4_4 hB4_5 fB4_5 hB4_6 fB4_6 hB4_7 fB4_7 hB5_0 fB5_0 hB5_1 fB5_1 hB5_2 fB5_2 hB5_3 fB5_3 hB5_4 fB5_4 hB5_5 fB5_5 hB5_6 fB5_6 hB5_7 fB5_7;have hB5_0:=bc0_ B5.out;have fB5_0:=blk_frozen B5.out 0;have hB5_1:=bc1_ B5.out;have fB5_1:=blk_frozen B5.out 1;have hB5_2:=bc2_ B5.out;have fB5_2:=blk_frozen B5.out 2;have hB5_3:=bc3_ B5.out;have fB5_3:=blk_frozen B5.out 3;have hB5_4:=bc4_ B5.out;have fB5_4:=blk_frozen B5.out 4;have hB5_5:=bc5_ B5.out;have fB5_5:=blk_frozen B5.out 5;have hB5_6:=bc6_ B5.out;have fB5_6:=blk_frozen B5.out 6;have hB5_7:=bc7_ B5.out;have fB5_7:=blk_frozen B5.out 7;have hB4_0:=bc0_ B4.out;have fB4_0:=blk_frozen B4.out 0;have hB4_1:=bc1_ B4.out;have fB4_1:=blk_frozen B4.out 1;have hB4_2:=bc2_ B4.out;have fB4_2:=blk_frozen B4.out 2;have hB4_3:=bc3_ B4.out;have fB4_3:=blk_frozen B4.out 3;have hB4_4:=bc4_ B4.out;have fB4_4:=blk_frozen B4.out 4;have hB4_5:=bc5_ B4.out;have fB4_5:=blk_frozen B4.out 5;have hB4_6:=bc6_ B4.out;have fB4_6:=blk_frozen B4.out 6;have hB4_7:=bc7_ B4.out;have fB4_7:=blk_frozen B4.out 7;have hn:=N45.out;have hn2:=N45.out.symm))
  refine bodyPost_ret (rct_ gB4 43 #[.int .i64 q1,.slice Av s1.length cv,.int .i64 s2,.string s3,.slice Au s4.length cu,.int .i64 s5,.int .i64 s2,.string s3] B4 Tryz.underlying43) rfl ?_
  exact ⟨_,_,rfl,kf_ HO B4,kf_ HP B4,bw_ HB⟩
section
attribute [local go_sem high] eqA37
def laws_FnCrashed.f (k:Nat) (l0:List Int):Option (Bool):=(laws_big.f l0).bind fun t1=>(if t1=true then (some true) else ((spec_DrawCrashMirror.f k l0).bind fun bt2=>((impl_CrashMirror.f k bt2.1 bt2.2.1 bt2.2.2.1 bt2.2.2.2.1 bt2.2.2.2.2.1 bt2.2.2.2.2.2.1 bt2.2.2.2.2.2.2.1 bt2.2.2.2.2.2.2.2.1 bt2.2.2.2.2.2.2.2.2.1 bt2.2.2.2.2.2.2.2.2.2).bind fun bt19=>((spec_CrashMirror.f k bt2.1 bt2.2.1 bt2.2.2.1 bt2.2.2.2.1 bt2.2.2.2.2.1 bt2.2.2.2.2.2.1 bt2.2.2.2.2.2.2.1 bt2.2.2.2.2.2.2.2.1 bt2.2.2.2.2.2.2.2.2.1 bt2.2.2.2.2.2.2.2.2.2).bind fun bt33=>(if bt19.2.2.2.2.2.2.2.2=bt33.2.2.2.2.2.2.2.2 then ((impl_SyncMirror.f k bt2.1 bt2.2.1 bt2.2.2.1 bt2.2.2.2.1 bt2.2.2.2.2.1 bt2.2.2.2.2.2.1 bt2.2.2.2.2.2.2.1 bt2.2.2.2.2.2.2.2.1 bt2.2.2.2.2.2.2.2.2.1).bind fun bt47=>(if bt19.2.2.2.2.2.2.2.2 < 0 then ((impl_MirrorOk.f k bt2.1 bt2.2.1 bt2.2.2.1 bt2.2.2.2.1 bt2.2.2.2.2.1 bt2.2.2.2.2.2.1 bt2.2.2.2.2.2.2.1 bt2.2.2.2.2.2.2.2.1 bt2.2.2.2.2.2.2.2.2.1).bind fun t60=>(if t60=true then (none) else ((laws_sameTexts.f k bt19.2.1 bt2.2.1).bind fun t61=>(some t61)))) else ((impl_CrashMirror.f k bt47.1 bt47.2.1 bt47.2.2.1 bt47.2.2.2.1 bt47.2.2.2.2.1 bt47.2.2.2.2.2.1 bt47.2.2.2.2.2.2.1 bt47.2.2.2.2.2.2.2 bt2.2.2.2.2.2.2.2.2.1 0).bind fun bt62=>((impl_StoreOk.f k bt19.2.1 bt19.2.2.1 bt19.2.2.2.1 bt19.2.2.2.2.1 bt19.2.2.2.2.2.1).bind fun t76=>(if t76=true then ((laws_begins.f k bt19.2.1 bt2.2.1).bind fun t77=>(if t77=true then (if (bt19.2.2.2.2.2.2.1 == bt19.2.2.1 && (bt19.2.2.2.2.2.2.2.1.toList == bt19.2.2.2.1.toList))=true then ((impl_MirrorOk.f k bt47.1 bt47.2.1 bt47.2.2.1 bt47.2.2.2.1 bt47.2.2.2.2.1 bt47.2.2.2.2.2.1 bt47.2.2.2.2.2.2.1 bt47.2.2.2.2.2.2.2 bt2.2.2.2.2.2.2.2.2.1).bind fun t78=>(if t78=true then (some (decide ((bt62.2.1.length:Int) ≥ (bt19.2.1.length:Int)))) else (none))) else (none)) else (none))) else (none)))))) else (none))))))
theorem laws_FnCrashed.calls (k:Nat) (A0:Option Addr) (c0:Nat) (l0:List Int) (r:Bool) (w:World) (hr0:Kd.C (Kd.int .u8) w A0 l0.length l0) (hc0:l0.length≤c0) (h:laws_FnCrashed.f k l0=some r) :
  Calls Tryz.prog 4 #[.slice A0 l0.length c0] w fun e w'=>e = .returned (.bool r)∧Below w.heap.size w w':=by
 have hu43:=Tryz.underlying43
 have hu41:=Tryz.underlying41
 have hu37:=Tryz.underlying37
 have HR0:=am_ hr0
 have HC0:=am_ hc0
 clear hr0 hc0
 have HB:=h0_ w
 have H:((laws_big.f l0).bind fun t1=>(if t1=true then (some true) else ((spec_DrawCrashMirror.f k l0).bind fun bt2=>((impl_CrashMirror.f k bt2.1 bt2.2.1 bt2.2.2.1 bt2.2.2.2.1 bt2.2.2.2.2.1 bt2.2.2.2.2.2.1 bt2.2.2.2.2.2.2.1 bt2.2.2.2.2.2.2.2.1 bt2.2.2.2.2.2.2.2.2.1 bt2.2.2.2.2.2.2.2.2.2).bind fun bt19=>((spec_CrashMirror.f k bt2.1 bt2.2.1 bt2.2.2.1 bt2.2.2.2.1 bt2.2.2.2.2.1 bt2.2.2.2.2.2.1 bt2.2.2.2.2.2.2.1 bt2.2.2.2.2.2.2.2.1 bt2.2.2.2.2.2.2.2.2.1 bt2.2.2.2.2.2.2.2.2.2).bind fun bt33=>(if bt19.2.2.2.2.2.2.2.2=bt33.2.2.2.2.2.2.2.2 then ((impl_SyncMirror.f k bt2.1 bt2.2.1 bt2.2.2.1 bt2.2.2.2.1 bt2.2.2.2.2.1 bt2.2.2.2.2.2.1 bt2.2.2.2.2.2.2.1 bt2.2.2.2.2.2.2.2.1 bt2.2.2.2.2.2.2.2.2.1).bind fun bt47=>(if bt19.2.2.2.2.2.2.2.2 < 0 then ((impl_MirrorOk.f k bt2.1 bt2.2.1 bt2.2.2.1 bt2.2.2.2.1 bt2.2.2.2.2.1 bt2.2.2.2.2.2.1 bt2.2.2.2.2.2.2.1 bt2.2.2.2.2.2.2.2.1 bt2.2.2.2.2.2.2.2.2.1).bind fun t60=>(if t60=true then (none) else ((laws_sameTexts.f k bt19.2.1 bt2.2.1).bind fun t61=>(some t61)))) else ((impl_CrashMirror.f k bt47.1 bt47.2.1 bt47.2.2.1 bt47.2.2.2.1 bt47.2.2.2.2.1 bt47.2.2.2.2.2.1 bt47.2.2.2.2.2.2.1 bt47.2.2.2.2.2.2.2 bt2.2.2.2.2.2.2.2.2.1 0).bind fun bt62=>((impl_StoreOk.f k bt19.2.1 bt19.2.2.1 bt19.2.2.2.1 bt19.2.2.2.2.1 bt19.2.2.2.2.2.1).bind fun t76=>(if t76=true then ((laws_begins.f k bt19.2.1 bt2.2.1).bind fun t77=>(if t77=true then (if (bt19.2.2.2.2.2.2.1 == bt19.2.2.1 && (bt19.2.2.2.2.2.2.2.1.toList == bt19.2.2.2.1.toList))=true then ((impl_MirrorOk.f k bt47.1 bt47.2.1 bt47.2.2.1 bt47.2.2.2.1 bt47.2.2.2.2.1 bt47.2.2.2.2.2.1 bt47.2.2.2.2.2.2.1 bt47.2.2.2.2.2.2.2 bt2.2.2.2.2.2.2.2.2.1).bind fun t78=>(if t78=true then (some (decide ((bt62.2.1.length:Int) ≥ (bt19.2.1.length:Int)))) else (none))) else (none)) else (none))) else (none)))))) else (none)))))))=some r:=h
 clear h
 replace H:=bi_ H;obtain ⟨t1,A2,H⟩:=H
 replace H:=itb_ H;obtain ⟨rfl,H⟩|⟨rfl,H⟩:=H
 ·obtain rfl:=Option.some.inj H
  go_enter Tryz.func4,Tryz.ntmps4
  go_wp2_with (first|((with_reducible refine gq_ 22 14 ?_);refine gc_ 14 Tryz.func22 (laws_big.calls _ _ l0 true _ (cr_ HR0.out) HC0.out A2.out) ?_;rintro e w' ⟨rfl,⟨nd,rfl⟩⟩;refine ⟨_,rfl,?_⟩))
  go_ret
  exact ⟨e2_,bw_ HB⟩
 ·replace H:=bi_ H;obtain ⟨⟨t602,t3,t6,t7,t8,t11,t12,t13,t14,t17⟩,A4,H⟩:=H
  dsimp only at H
  replace H:=bi_ H;obtain ⟨⟨t19,t20,t23,t24,t25,t28,t29,t30,t31⟩,A5,H⟩:=H
  dsimp only at H
  replace H:=bi_ H;obtain ⟨⟨t33,t34,t37,t38,t39,t42,t43,t44,t45⟩,A6,H⟩:=H
  dsimp only at H
  replace H:=ip_ H;obtain ⟨c7,H⟩:=H
  have c7b0:(t31 == t45)=true:=beq_iff_eq.mpr c7
  have c7b1:(t31 != t45)=false:=bne_eq_false_iff_eq.mpr c7
  clear c7
  replace H:=bi_ H;obtain ⟨⟨t47,t48,t51,t52,t53,t56,t57,t58⟩,A8,H⟩:=H
  dsimp only at H
  replace H:=itd_ H;obtain ⟨c9b0,H⟩|⟨c9b0,H⟩:=H
  ·replace H:=bi_ H;obtain ⟨t60,A10,H⟩:=H
   replace H:=inb_ H;obtain ⟨rfl,H⟩:=H
   replace H:=bi_ H;obtain ⟨t61,A12,H⟩:=H
   obtain rfl:=Option.some.inj H
   go_enter Tryz.func4,Tryz.ntmps4
   go_wp2_with (first|((with_reducible refine gq_ 22 14 ?_);refine gc_ 14 Tryz.func22 (laws_big.calls _ _ l0 false _ (cr_ HR0.out) HC0.out A2.out) ?_;rintro e w' ⟨rfl,⟨nd,rfl⟩⟩;refine ⟨_,rfl,?_⟩)|((with_reducible refine gq_ 23 17 ?_);refine gc_ 17 Tryz.func23 (spec_DrawCrashMirror.calls k _ _ l0 t602 t3 t6 t7 t8 t11 t12 t13 t14 t17 _ (cr_ HR0.out) HC0.out A4.out) ?_;rintro e w13 ⟨v4,v9,v15,rfl,ho0,ho1,ho2,hb⟩;refine ⟨_,rfl,?_⟩;have HO5:=rlo_ ho0 HB;have HO10:=rlo_ ho1 HB;have HO16:=rlo_ ho2 HB;replace HB:=ss_ HB hb;clear hb ho0 ho1 ho2)|((with_reducible refine gd_ 3 ?_);(try (refine gate_guard (by rfl) ?_;dsimp only));refine x43_ 3 ?_;intro gb18 hg w14 hbox hb;replace HO5:=rb_ HO5 hb;replace HO10:=rb_ HO10 hb;replace HO16:=rb_ HO16 hb;have BK18:=am_ hbox;have GW18:=gg_ hg HB;have GE18:=GW18;replace HB:=ss_ HB hb;clear hb hbox hg;have hcz15:=cz8_ BK18;obtain ⟨Ao16,co16,eo16⟩:=Kd.R_slice HO5.out;subst eo16;obtain ⟨Ao17,co17,eo17⟩:=Kd.R_slice HO10.out;subst eo17;obtain ⟨Ao18,co18,eo18⟩:=Kd.R_slice HO16.out;subst eo18)|((with_reducible refine gq_ 24 25 ?_);refine gc_ 25 Tryz.func24 (impl_CrashMirror.calls k t602 _ _ t3 t6 t7 _ _ t8 t11 t12 t13 _ _ t14 t17 t19 t20 t23 t24 t25 t28 t29 t30 t31 _ (chf_ HO5 BK18) (cl_ HO5) (chf_ HO10 BK18) (cl_ HO10) (chf_ HO16 BK18) (cl_ HO16) A5.out) ?_;rintro e w19 ⟨v21,v26,rfl,ho0,ho1,hb⟩;refine ⟨_,rfl,?_⟩;replace HO16:=rbf_ HO16 BK18 hb;have HO22:=am_ (Kd.R_lower (Kd.R_new' ho0 (lf_ HO5 BK18)) (sz_ HB));replace HO5:=ref_ HO5 BK18 ho0 hb;have HO27:=am_ (Kd.R_lower (Kd.R_new' ho1 (lf_ HO10 BK18)) (sz_ HB));replace HO10:=ref_ HO10 BK18 ho1 hb;replace BK18:=kp_ BK18 hb;replace HB:=ss_ HB hb;clear hb ho0 ho1)|((with_reducible refine gd_ 6 ?_);(try (refine gate_guard (by rfl) ?_;dsimp only));refine x43_ 6 ?_;intro gb32 hg w20 hbox hb;replace HO5:=rb_ HO5 hb;replace HO10:=rb_ HO10 hb;replace HO16:=rb_ HO16 hb;replace HO22:=rb_ HO22 hb;replace HO27:=rb_ HO27 hb;have BK32:=am_ hbox;have GW32:=gg_ hg HB;have GE32:=GW32;replace HB:=ss_ HB hb;have NB18_32:=nla_ hg BK18;have NB32_18:=nga_ hg BK18;replace BK18:=kl_ BK18 hb;clear hb hbox hg;have hnb21:=NB32_18.out;have hnc21:=NB18_32.out;have hcz22:=cz8_ BK32;obtain ⟨Ao23,co23,eo23⟩:=Kd.R_slice HO22.out;subst eo23;obtain ⟨Ao24,co24,eo24⟩:=Kd.R_slice HO27.out;subst eo24;have hcz25:=cz8_ BK18)|((with_reducible refine gq_ 25 32 ?_);refine gc_ 32 Tryz.func25 (spec_CrashMirror.calls k t602 _ _ t3 t6 t7 _ _ t8 t11 t12 t13 _ _ t14 t17 t33 t34 t37 t38 t39 t42 t43 t44 t45 _ (chf_ HO5 BK32) (cl_ HO5) (chf_ HO10 BK32) (cl_ HO10) (chf_ HO16 BK32) (cl_ HO16) A6.out) ?_;rintro e w26 ⟨v35,v40,rfl,ho0,ho1,hb⟩;refine ⟨_,rfl,?_⟩;replace HO16:=rbf_ HO16 BK32 hb;have HO36:=am_ (Kd.R_lower (Kd.R_new' (Kd.R_new' ho0 (lf_ HO5 BK32)) (lf_ HO22 BK32)) (sz_ HB));replace HO5:=ref_ HO5 BK32 ho0 hb;replace HO22:=ref_ HO22 BK32 ho0 hb;have HO41:=am_ (Kd.R_lower (Kd.R_new' (Kd.R_new' ho1 (lf_ HO10 BK32)) (lf_ HO27 BK32)) (sz_ HB));replace HO10:=ref_ HO10 BK32 ho1 hb;replace HO27:=ref_ HO27 BK32 ho1 hb;replace BK18:=kp_ BK18 hb;replace BK32:=kp_ BK32 hb;replace HB:=ss_ HB hb;clear hb ho0 ho1)|((with_reducible refine gd_ 8 ?_);(try (refine gate_guard (by rfl) ?_;dsimp only));refine x43_ 8 ?_;intro gb46 hg w27 hbox hb;replace HO5:=rb_ HO5 hb;replace HO10:=rb_ HO10 hb;replace HO16:=rb_ HO16 hb;replace HO22:=rb_ HO22 hb;replace HO27:=rb_ HO27 hb;replace HO36:=rb_ HO36 hb;replace HO41:=rb_ HO41 hb;have BK46:=am_ hbox;have GW46:=gg_ hg HB;have GE46:=GW46;replace HB:=ss_ HB hb;have NB18_46:=nla_ hg BK18;have NB46_18:=nga_ hg BK18;replace BK18:=kl_ BK18 hb;have NB32_46:=nla_ hg BK32;have NB46_32:=nga_ hg BK32;replace BK32:=kl_ BK32 hb;clear hb hbox hg;have hnb28:=NB46_18.out;have hnc28:=NB18_46.out;have hnb29:=NB46_32.out;have hnc29:=NB32_46.out;have hcz30:=cz8_ BK46;obtain ⟨Ao31,co31,eo31⟩:=Kd.R_slice HO36.out;subst eo31;obtain ⟨Ao32,co32,eo32⟩:=Kd.R_slice HO41.out;subst eo32;have hcz33:=cz8_ BK18)|((with_reducible refine gq_ 26 40 ?_);refine gc_ 40 Tryz.func26 (impl_SyncMirror.calls k t602 _ _ t3 t6 t7 _ _ t8 t11 t12 t13 _ _ t14 t47 t48 t51 t52 t53 t56 t57 t58 _ (chf_ HO5 BK46) (cl_ HO5) (chf_ HO10 BK46) (cl_ HO10) (chf_ HO16 BK46) (cl_ HO16) A8.out) ?_;rintro e w34 ⟨v49,v54,rfl,ho0,ho1,hb⟩;refine ⟨_,rfl,?_⟩;replace HO16:=rbf_ HO16 BK46 hb;have HO50:=am_ (Kd.R_lower (Kd.R_new' (Kd.R_new' (Kd.R_new' ho0 (lf_ HO5 BK46)) (lf_ HO22 BK46)) (lf_ HO36 BK46)) (sz_ HB));replace HO5:=ref_ HO5 BK46 ho0 hb;replace HO22:=ref_ HO22 BK46 ho0 hb;replace HO36:=ref_ HO36 BK46 ho0 hb;have HO55:=am_ (Kd.R_lower (Kd.R_new' (Kd.R_new' (Kd.R_new' ho1 (lf_ HO10 BK46)) (lf_ HO27 BK46)) (lf_ HO41 BK46)) (sz_ HB));replace HO10:=ref_ HO10 BK46 ho1 hb;replace HO27:=ref_ HO27 BK46 ho1 hb;replace HO41:=ref_ HO41 BK46 ho1 hb;replace BK18:=kp_ BK18 hb;replace BK32:=kp_ BK32 hb;replace BK46:=kp_ BK46 hb;replace HB:=ss_ HB hb;clear hb ho0 ho1)|((with_reducible refine gd_ 10 ?_);(try (refine gate_guard (by rfl) ?_;dsimp only));refine x43_ 10 ?_;intro gb59 hg w35 hbox hb;replace HO5:=rb_ HO5 hb;replace HO10:=rb_ HO10 hb;replace HO16:=rb_ HO16 hb;replace HO22:=rb_ HO22 hb;replace HO27:=rb_ HO27 hb;replace HO36:=rb_ HO36 hb;replace HO41:=rb_ HO41 hb;replace HO50:=rb_ HO50 hb;replace HO55:=rb_ HO55 hb;have BK59:=am_ hbox;have GW59:=gg_ hg HB;have GE59:=GW59;replace HB:=ss_ HB hb;have NB18_59:=nla_ hg BK18;have NB59_18:=nga_ hg BK18;replace BK18:=kl_ BK18 hb;have NB32_59:=nla_ hg BK32;have NB59_32:=nga_ hg BK32;replace BK32:=kl_ BK32 hb;have NB46_59:=nla_ hg BK46;have NB59_46:=nga_ hg BK46;replace BK46:=kl_ BK46 hb;clear hb hbox hg;have hnb36:=NB59_18.out;have hnc36:=NB18_59.out;have hnb37:=NB59_32.out;have hnc37:=NB32_59.out;have hnb38:=NB59_46.out;have hnc38:=NB46_59.out;have hcz39:=cz8_ BK59;obtain ⟨Ao40,co40,eo40⟩:=Kd.R_slice HO50.out;subst eo40;obtain ⟨Ao41,co41,eo41⟩:=Kd.R_slice HO55.out;subst eo41;have hcz42:=cz8_ BK18)|((with_reducible refine gq_ 27 45 ?_);refine gc_ 45 Tryz.func27 (impl_MirrorOk.calls k t602 _ _ t3 t6 t7 _ _ t8 t11 t12 t13 _ _ t14 false _ (chf_ HO5 BK59) (cl_ HO5) (chf_ HO10 BK59) (cl_ HO10) (chf_ HO16 BK59) (cl_ HO16) A10.out) ?_;rintro e w43 ⟨rfl,hb⟩;refine ⟨_,rfl,?_⟩;replace HO5:=rbf_ HO5 BK59 hb;replace HO10:=rbf_ HO10 BK59 hb;replace HO16:=rbf_ HO16 BK59 hb;replace HO22:=rbf_ HO22 BK59 hb;replace HO27:=rbf_ HO27 BK59 hb;replace HO36:=rbf_ HO36 BK59 hb;replace HO41:=rbf_ HO41 BK59 hb;replace HO50:=rbf_ HO50 BK59 hb;replace HO55:=rbf_ HO55 BK59 hb;replace BK18:=kp_ BK18 hb;replace BK32:=kp_ BK32 hb;replace BK46:=kp_ BK46 hb;replace BK59:=kp_ BK59 hb;replace HB:=ss_ HB hb;clear hb;have hcz44:=cz8_ BK32;have hcz45:=cz8_ BK18)|(go_at_call 28;(with_reducible refine (laws_sameTexts.calls k _ _ t20 _ _ t3 t61 _ ?side1 ?side2 ?side3 ?side4 A12.out).mono ?_);(case side1=>exact ch_ HO22);(case side2=>exact (cl_ HO22));(case side3=>exact ch_ HO5);(case side4=>exact (cl_ HO5));rintro e w' ⟨rfl,⟨nd,rfl⟩⟩))
   go_ret
   exact ⟨e2_,bw_ HB⟩
  ·replace H:=bi_ H;obtain ⟨⟨t62,t63,t66,t67,t68,t71,t72,t73,t74⟩,A46,H⟩:=H
   dsimp only at H
   replace H:=bi_ H;obtain ⟨t76,A47,H⟩:=H
   replace H:=ipb_ H;obtain ⟨rfl,H⟩:=H
   replace H:=bi_ H;obtain ⟨t77,A49,H⟩:=H
   replace H:=ipb_ H;obtain ⟨rfl,H⟩:=H
   replace H:=ip_ H;obtain ⟨c51,H⟩:=H
   have c51b0:(t29 == t23 && (t30.toList == t24.toList))=true:=c51
   (try (have c51b1:decide (t29=t23 && (t30.toList == t24.toList))=true:=by simpa using c51))
   (try (have c51b2:(t29 == t23 && (t30.toList == t24.toList))=true:=by simpa using c51))
   clear c51
   replace H:=bi_ H;obtain ⟨t78,A52,H⟩:=H
   replace H:=ipb_ H;obtain ⟨rfl,H⟩:=H
   obtain rfl:=Option.some.inj H
   go_enter Tryz.func4,Tryz.ntmps4
   go_wp2_with (first|((with_reducible refine gq_ 22 14 ?_);refine gc_ 14 Tryz.func22 (laws_big.calls _ _ l0 false _ (cr_ HR0.out) HC0.out A2.out) ?_;rintro e w' ⟨rfl,⟨nd,rfl⟩⟩;refine ⟨_,rfl,?_⟩)|((with_reducible refine gq_ 23 17 ?_);refine gc_ 17 Tryz.func23 (spec_DrawCrashMirror.calls k _ _ l0 t602 t3 t6 t7 t8 t11 t12 t13 t14 t17 _ (cr_ HR0.out) HC0.out A4.out) ?_;rintro e w54 ⟨v4,v9,v15,rfl,ho0,ho1,ho2,hb⟩;refine ⟨_,rfl,?_⟩;have HO5:=rlo_ ho0 HB;have HO10:=rlo_ ho1 HB;have HO16:=rlo_ ho2 HB;replace HB:=ss_ HB hb;clear hb ho0 ho1 ho2)|((with_reducible refine gd_ 3 ?_);(try (refine gate_guard (by rfl) ?_;dsimp only));refine x43_ 3 ?_;intro gb18 hg w55 hbox hb;replace HO5:=rb_ HO5 hb;replace HO10:=rb_ HO10 hb;replace HO16:=rb_ HO16 hb;have BK18:=am_ hbox;have GW18:=gg_ hg HB;have GE18:=GW18;replace HB:=ss_ HB hb;clear hb hbox hg;have hcz56:=cz8_ BK18;obtain ⟨Ao57,co57,eo57⟩:=Kd.R_slice HO5.out;subst eo57;obtain ⟨Ao58,co58,eo58⟩:=Kd.R_slice HO10.out;subst eo58;obtain ⟨Ao59,co59,eo59⟩:=Kd.R_slice HO16.out;subst eo59)|((with_reducible refine gq_ 24 25 ?_);refine gc_ 25 Tryz.func24 (impl_CrashMirror.calls k t602 _ _ t3 t6 t7 _ _ t8 t11 t12 t13 _ _ t14 t17 t19 t20 t23 t24 t25 t28 t29 t30 t31 _ (chf_ HO5 BK18) (cl_ HO5) (chf_ HO10 BK18) (cl_ HO10) (chf_ HO16 BK18) (cl_ HO16) A5.out) ?_;rintro e w60 ⟨v21,v26,rfl,ho0,ho1,hb⟩;refine ⟨_,rfl,?_⟩;replace HO16:=rbf_ HO16 BK18 hb;have HO22:=am_ (Kd.R_lower (Kd.R_new' ho0 (lf_ HO5 BK18)) (sz_ HB));replace HO5:=ref_ HO5 BK18 ho0 hb;have HO27:=am_ (Kd.R_lower (Kd.R_new' ho1 (lf_ HO10 BK18)) (sz_ HB));replace HO10:=ref_ HO10 BK18 ho1 hb;replace BK18:=kp_ BK18 hb;replace HB:=ss_ HB hb;clear hb ho0 ho1)|((with_reducible refine gd_ 6 ?_);(try (refine gate_guard (by rfl) ?_;dsimp only));refine x43_ 6 ?_;intro gb32 hg w61 hbox hb;replace HO5:=rb_ HO5 hb;replace HO10:=rb_ HO10 hb;replace HO16:=rb_ HO16 hb;replace HO22:=rb_ HO22 hb;replace HO27:=rb_ HO27 hb;have BK32:=am_ hbox;have GW32:=gg_ hg HB;have GE32:=GW32;replace HB:=ss_ HB hb;have NB18_32:=nla_ hg BK18;have NB32_18:=nga_ hg BK18;replace BK18:=kl_ BK18 hb;clear hb hbox hg;have hnb62:=NB32_18.out;have hnc62:=NB18_32.out;have hcz63:=cz8_ BK32;obtain ⟨Ao64,co64,eo64⟩:=Kd.R_slice HO22.out;subst eo64;obtain ⟨Ao65,co65,eo65⟩:=Kd.R_slice HO27.out;subst eo65;have hcz66:=cz8_ BK18)|((with_reducible refine gq_ 25 32 ?_);refine gc_ 32 Tryz.func25 (spec_CrashMirror.calls k t602 _ _ t3 t6 t7 _ _ t8 t11 t12 t13 _ _ t14 t17 t33 t34 t37 t38 t39 t42 t43 t44 t45 _ (chf_ HO5 BK32) (cl_ HO5) (chf_ HO10 BK32) (cl_ HO10) (chf_ HO16 BK32) (cl_ HO16) A6.out) ?_;rintro e w67 ⟨v35,v40,rfl,ho0,ho1,hb⟩;refine ⟨_,rfl,?_⟩;replace HO16:=rbf_ HO16 BK32 hb;have HO36:=am_ (Kd.R_lower (Kd.R_new' (Kd.R_new' ho0 (lf_ HO5 BK32)) (lf_ HO22 BK32)) (sz_ HB));replace HO5:=ref_ HO5 BK32 ho0 hb;replace HO22:=ref_ HO22 BK32 ho0 hb;have HO41:=am_ (Kd.R_lower (Kd.R_new' (Kd.R_new' ho1 (lf_ HO10 BK32)) (lf_ HO27 BK32)) (sz_ HB));replace HO10:=ref_ HO10 BK32 ho1 hb;replace HO27:=ref_ HO27 BK32 ho1 hb;replace BK18:=kp_ BK18 hb;replace BK32:=kp_ BK32 hb;replace HB:=ss_ HB hb;clear hb ho0 ho1)|((with_reducible refine gd_ 8 ?_);(try (refine gate_guard (by rfl) ?_;dsimp only));refine x43_ 8 ?_;intro gb46 hg w68 hbox hb;replace HO5:=rb_ HO5 hb;replace HO10:=rb_ HO10 hb;replace HO16:=rb_ HO16 hb;replace HO22:=rb_ HO22 hb;replace HO27:=rb_ HO27 hb;replace HO36:=rb_ HO36 hb;replace HO41:=rb_ HO41 hb;have BK46:=am_ hbox;have GW46:=gg_ hg HB;have GE46:=GW46;replace HB:=ss_ HB hb;have NB18_46:=nla_ hg BK18;have NB46_18:=nga_ hg BK18;replace BK18:=kl_ BK18 hb;have NB32_46:=nla_ hg BK32;have NB46_32:=nga_ hg BK32;replace BK32:=kl_ BK32 hb;clear hb hbox hg;have hnb69:=NB46_18.out;have hnc69:=NB18_46.out;have hnb70:=NB46_32.out;have hnc70:=NB32_46.out;have hcz71:=cz8_ BK46;obtain ⟨Ao72,co72,eo72⟩:=Kd.R_slice HO36.out;subst eo72;obtain ⟨Ao73,co73,eo73⟩:=Kd.R_slice HO41.out;subst eo73;have hcz74:=cz8_ BK18)|((with_reducible refine gq_ 26 40 ?_);refine gc_ 40 Tryz.func26 (impl_SyncMirror.calls k t602 _ _ t3 t6 t7 _ _ t8 t11 t12 t13 _ _ t14 t47 t48 t51 t52 t53 t56 t57 t58 _ (chf_ HO5 BK46) (cl_ HO5) (chf_ HO10 BK46) (cl_ HO10) (chf_ HO16 BK46) (cl_ HO16) A8.out) ?_;rintro e w75 ⟨v49,v54,rfl,ho0,ho1,hb⟩;refine ⟨_,rfl,?_⟩;replace HO16:=rbf_ HO16 BK46 hb;have HO50:=am_ (Kd.R_lower (Kd.R_new' (Kd.R_new' (Kd.R_new' ho0 (lf_ HO5 BK46)) (lf_ HO22 BK46)) (lf_ HO36 BK46)) (sz_ HB));replace HO5:=ref_ HO5 BK46 ho0 hb;replace HO22:=ref_ HO22 BK46 ho0 hb;replace HO36:=ref_ HO36 BK46 ho0 hb;have HO55:=am_ (Kd.R_lower (Kd.R_new' (Kd.R_new' (Kd.R_new' ho1 (lf_ HO10 BK46)) (lf_ HO27 BK46)) (lf_ HO41 BK46)) (sz_ HB));replace HO10:=ref_ HO10 BK46 ho1 hb;replace HO27:=ref_ HO27 BK46 ho1 hb;replace HO41:=ref_ HO41 BK46 ho1 hb;replace BK18:=kp_ BK18 hb;replace BK32:=kp_ BK32 hb;replace BK46:=kp_ BK46 hb;replace HB:=ss_ HB hb;clear hb ho0 ho1)|((with_reducible refine gd_ 10 ?_);(try (refine gate_guard (by rfl) ?_;dsimp only));refine x43_ 10 ?_;intro gb59 hg w76 hbox hb;replace HO5:=rb_ HO5 hb;replace HO10:=rb_ HO10 hb;replace HO16:=rb_ HO16 hb;replace HO22:=rb_ HO22 hb;replace HO27:=rb_ HO27 hb;replace HO36:=rb_ HO36 hb;replace HO41:=rb_ HO41 hb;replace HO50:=rb_ HO50 hb;replace HO55:=rb_ HO55 hb;have BK59:=am_ hbox;have GW59:=gg_ hg HB;have GE59:=GW59;replace HB:=ss_ HB hb;have NB18_59:=nla_ hg BK18;have NB59_18:=nga_ hg BK18;replace BK18:=kl_ BK18 hb;have NB32_59:=nla_ hg BK32;have NB59_32:=nga_ hg BK32;replace BK32:=kl_ BK32 hb;have NB46_59:=nla_ hg BK46;have NB59_46:=nga_ hg BK46;replace BK46:=kl_ BK46 hb;clear hb hbox hg;have hnb77:=NB59_18.out;have hnc77:=NB18_59.out;have hnb78:=NB59_32.out;have hnc78:=NB32_59.out;have hnb79:=NB59_46.out;have hnc79:=NB46_59.out;have hcz80:=cz8_ BK59;obtain ⟨Ao81,co81,eo81⟩:=Kd.R_slice HO50.out;subst eo81;obtain ⟨Ao82,co82,eo82⟩:=Kd.R_slice HO55.out;subst eo82)|((with_reducible refine gq_ 24 61 ?_);refine gc_ 61 Tryz.func24 (impl_CrashMirror.calls k t47 _ _ t48 t51 t52 _ _ t53 t56 t57 t58 _ _ t14 0 t62 t63 t66 t67 t68 t71 t72 t73 t74 _ (chf_ HO50 BK59) (cl_ HO50) (chf_ HO55 BK59) (cl_ HO55) (chf_ HO16 BK59) (cl_ HO16) A46.out) ?_;rintro e w83 ⟨v64,v69,rfl,ho0,ho1,hb⟩;refine ⟨_,rfl,?_⟩;replace HO16:=rbf_ HO16 BK59 hb;have HO65:=am_ (Kd.R_lower (Kd.R_new' (Kd.R_new' (Kd.R_new' (Kd.R_new' ho0 (lf_ HO5 BK59)) (lf_ HO22 BK59)) (lf_ HO36 BK59)) (lf_ HO50 BK59)) (sz_ HB));replace HO5:=ref_ HO5 BK59 ho0 hb;replace HO22:=ref_ HO22 BK59 ho0 hb;replace HO36:=ref_ HO36 BK59 ho0 hb;replace HO50:=ref_ HO50 BK59 ho0 hb;have HO70:=am_ (Kd.R_lower (Kd.R_new' (Kd.R_new' (Kd.R_new' (Kd.R_new' ho1 (lf_ HO10 BK59)) (lf_ HO27 BK59)) (lf_ HO41 BK59)) (lf_ HO55 BK59)) (sz_ HB));replace HO10:=ref_ HO10 BK59 ho1 hb;replace HO27:=ref_ HO27 BK59 ho1 hb;replace HO41:=ref_ HO41 BK59 ho1 hb;replace HO55:=ref_ HO55 BK59 ho1 hb;replace BK18:=kp_ BK18 hb;replace BK32:=kp_ BK32 hb;replace BK46:=kp_ BK46 hb;replace BK59:=kp_ BK59 hb;replace HB:=ss_ HB hb;clear hb ho0 ho1)|((with_reducible refine gd_ 11 ?_);(try (refine gate_guard (by rfl) ?_;dsimp only));refine x43_ 11 ?_;intro gb75 hg w84 hbox hb;replace HO5:=rb_ HO5 hb;replace HO10:=rb_ HO10 hb;replace HO16:=rb_ HO16 hb;replace HO22:=rb_ HO22 hb;replace HO27:=rb_ HO27 hb;replace HO36:=rb_ HO36 hb;replace HO41:=rb_ HO41 hb;replace HO50:=rb_ HO50 hb;replace HO55:=rb_ HO55 hb;replace HO65:=rb_ HO65 hb;replace HO70:=rb_ HO70 hb;have BK75:=am_ hbox;have GW75:=gg_ hg HB;have GE75:=GW75;replace HB:=ss_ HB hb;have NB18_75:=nla_ hg BK18;have NB75_18:=nga_ hg BK18;replace BK18:=kl_ BK18 hb;have NB32_75:=nla_ hg BK32;have NB75_32:=nga_ hg BK32;replace BK32:=kl_ BK32 hb;have NB46_75:=nla_ hg BK46;have NB75_46:=nga_ hg BK46;replace BK46:=kl_ BK46 hb;have NB59_75:=nla_ hg BK59;have NB75_59:=nga_ hg BK59;replace BK59:=kl_ BK59 hb;clear hb hbox hg;have hnb85:=NB75_18.out;have hnc85:=NB18_75.out;have hnb86:=NB75_32.out;have hnc86:=NB32_75.out;have hnb87:=NB75_46.out;have hnc87:=NB46_75.out;have hnb88:=NB75_59.out;have hnc88:=NB59_75.out;have hcz89:=cz8_ BK75;obtain ⟨Ao90,co90,eo90⟩:=Kd.R_slice HO65.out;subst eo90;obtain ⟨Ao91,co91,eo91⟩:=Kd.R_slice HO70.out;subst eo91;have hcz92:=cz8_ BK32)|((with_reducible refine gq_ 29 66 ?_);refine gc_ 66 Tryz.func29 (impl_StoreOk.calls k _ _ t20 t23 t24 _ _ t25 t28 true _ (chf_ HO22 BK75) (cl_ HO22) (chf_ HO27 BK75) (cl_ HO27) A47.out) ?_;rintro e w93 ⟨rfl,hb⟩;refine ⟨_,rfl,?_⟩;replace HO5:=rbf_ HO5 BK75 hb;replace HO10:=rbf_ HO10 BK75 hb;replace HO16:=rbf_ HO16 BK75 hb;replace HO22:=rbf_ HO22 BK75 hb;replace HO27:=rbf_ HO27 BK75 hb;replace HO36:=rbf_ HO36 BK75 hb;replace HO41:=rbf_ HO41 BK75 hb;replace HO50:=rbf_ HO50 BK75 hb;replace HO55:=rbf_ HO55 BK75 hb;replace HO65:=rbf_ HO65 BK75 hb;replace HO70:=rbf_ HO70 BK75 hb;replace BK18:=kp_ BK18 hb;replace BK32:=kp_ BK32 hb;replace BK46:=kp_ BK46 hb;replace BK59:=kp_ BK59 hb;replace BK75:=kp_ BK75 hb;replace HB:=ss_ HB hb;clear hb;have hcz94:=cz8_ BK32;have hcz95:=cz8_ BK18)|(go_at_call 30;(with_reducible refine (laws_begins.calls k _ _ t20 _ _ t3 true _ ?side1 ?side2 ?side3 ?side4 A49.out).mono ?_);(case side1=>exact ch_ HO22);(case side2=>exact (cl_ HO22));(case side3=>exact ch_ HO5);(case side4=>exact (cl_ HO5));rintro e w' ⟨rfl,⟨nd,rfl⟩⟩;have hcz96:=cz8_ BK59)|(go_at_call 27;(with_reducible refine (impl_MirrorOk.calls k t47 _ _ t48 t51 t52 _ _ t53 t56 t57 t58 _ _ t14 true _ ?side1 ?side2 ?side3 ?side4 ?side5 ?side6 A52.out).mono ?_);(case side1=>exact ch_ HO50);(case side2=>exact (cl_ HO50));(case side3=>exact ch_ HO55);(case side4=>exact (cl_ HO55));(case side5=>exact ch_ HO16);(case side6=>exact (cl_ HO16));rintro e w97 ⟨rfl,hb⟩;replace HO5:=rb_ HO5 hb;replace HO10:=rb_ HO10 hb;replace HO16:=rb_ HO16 hb;replace HO22:=rb_ HO22 hb;replace HO27:=rb_ HO27 hb;replace HO36:=rb_ HO36 hb;replace HO41:=rb_ HO41 hb;replace HO50:=rb_ HO50 hb;replace HO55:=rb_ HO55 hb;replace HO65:=rb_ HO65 hb;replace HO70:=rb_ HO70 hb;replace BK18:=kl_ BK18 hb;replace BK32:=kl_ BK32 hb;replace BK46:=kl_ BK46 hb;replace BK59:=kl_ BK59 hb;replace BK75:=kl_ BK75 hb;replace HB:=ss_ HB hb;clear hb;have hcz98:=cz8_ BK75;have hcz99:=cz8_ BK32))
   go_ret
   exact ⟨e2_,bw_ HB⟩
end
end Go.Proofs.YtnlndmoecljicaaGreat.Q
end
section
namespace Go.Proofs.YtnlndmoecljicaaGreat.Q
open Go.RowKit Go.Proofs.YtnlndmoecljicaaGreat.XO Go.Proofs.YtnlndmoecljicaaGreatW.PrintWords Go.ChangeShapes Go.WideShapes Go.ChangeAt
def laws_FnCrashed.Pure:Prop:=∀ (x0:List Int),(x0.length≤9223372036854775807∧∀ y0 ∈ x0,(Lit.int .u8 y0).wf=true)->∃ k,laws_FnCrashed.f k x0=some true
namespace RFnCrashed
theorem own:ownKnob Tryz.prog.godebug=none:=by kernel_rfl
theorem laidOut:laidOutB Tryz.prog=true:=by kernel_rfl
set_option maxRecDepth 100000 in
theorem lifted (PU:laws_FnCrashed.Pure) (os:Os) (started:os.Started) (H:Type) (enc:TypeId × Value->H) :
  ReturnsInHanded {} Tryz.checked os 4 .any (Rows.fnCrashedSpec.pre6 enc Tryz.prog Tryz.f4 Rows.fnCrashedRow.domain false) (Rows.fnCrashedSpec.post enc Tryz.prog Tryz.f4 false true false false):=by
 refine returnsInHanded_of_change_sized (C:=Tryz.checked) own started (by kernel_rfl) Tryz.func4
  (ChangeSpec.witness6 (enc:=enc) (C:=Tryz.checked) false ⟨#[],#[.slice none 0 0],[]⟩ 8 (by kernel_rfl) (by kernel_rfl) (by kernel_rfl) (by kernel_rfl)) ?_
 intro W base args ds gs before hval0 hW hcnd hsz0 _
 have hval:∀ (j:Nat) t v,Tryz.f4.params[j]?=some t->args[j]?=some v->Value.okWide Tryz.prog W .any base t v:=hval0
 have hW':=hW
 obtain ⟨p,q,hA0,hV,rfl,hfz,hnd⟩:=hW
 have hA:DataW.TrodAll enc Tryz.prog W 0 (fun _=>true) true Tryz.f4.params.toList args.toList ds p:=hA0
 rw [Tryz.params4] at hA hval
 obtain ⟨v0,vs0,d0,ds0,p0,q0,hargs,rfl,rfl,h0,r0⟩:=trodAll_cons hA
 obtain ⟨rfl,rfl,rfl⟩:=trodAll_nil r0
 obtain rfl:args=#[v0]:=by cases args;simp_all
 obtain ⟨rfl,rfl⟩:=trodVars_none hV
 have kk0:=h0
 have lt0:∀ x ∈ p0,x.block < W.heap.size:=by obtain ⟨m,hm⟩:=kk0;exact DataW.trod_lt m _ _ _ hm
 obtain ⟨A0,len0,c0,rfl⟩:=okWide_slice Tryz.underlying27 (hval 0 27 v0 rfl rfl)
 obtain ⟨fu0,hf0⟩:=h0
 obtain ⟨x0,⟨A0',c0',he0,hc0,hr0⟩,g0⟩:=(opens_slice Tryz.underlying27 (by kernel_rfl) (opens_int Tryz.underlying5)) hf0
 obtain ⟨rfl,rfl,rfl⟩:A0=A0'∧len0=x0.length∧c0=c0':=by simpa [Value.cells] using he0
 clear hA0 hval0 hsz0
 obtain ⟨k,hp⟩:=PU x0 g0
 refine (laws_FnCrashed.calls k _ _ x0 true W hr0 hc0 hp).mono fun e W' ⟨he,bel0⟩=>?_
 have bel:Below W.heap.size W W':=bel0
 subst he
 exact ⟨_,rfl,_,_,_,[],_,[],hW',trodAll_mk1 (shut_bool Tryz.underlying4 _),(trodAll_cons_mk (Below.trod laidOut (by kernel_rfl) (of_decide_eq_true (by kernel_rfl)) kk0 bel lt0) trodAll_mk0),rfl,bel.frame _,fun h=>by cases h⟩
theorem over (PU:laws_FnCrashed.Pure):Rows.fnCrashedRow.holds Tryz.pinned (OpenSpec.ofChange Rows.fnCrashedSpec) :=
 OpenClaim.holds_of_wide 4 Tryz.f4 rfl rfl rfl rfl rfl rfl rfl ⟨rfl,rfl,rfl,rfl,rfl⟩ rfl rfl rfl rfl rfl (by kernel_rfl) Tryz.func4 (by kernel_rfl)
  (of_decide_eq_true (by kernel_rfl)) (by unfold Func.isWrapper;first|(rw [if_pos (by decide +kernel)];kernel_rfl)|(rw [if_neg (by decide +kernel)];exact ⟨rfl,rfl⟩))
  (fun os started H enc _=>lifted PU os started H enc)
end RFnCrashed
theorem FnCrashed_row (PU:laws_FnCrashed.Pure):Rows.FnCrashedSaid:=RFnCrashed.over PU
end Go.Proofs.YtnlndmoecljicaaGreat.Q
end
section
namespace Go.Proofs.YtnlndmoecljicaaGreat.Q
open Go.Proofs.YtnlndmoecljicaaGreat.B Go.Proofs.YtnlndmoecljicaaGreatW.PrintMore Go.Proofs.YtnlndmoecljicaaGreatW.PrintWords Go.RowKit
set_option maxHeartbeats 8000000
set_option maxRecDepth 100000
theorem bytesOf_range (s:ByteArray):∀ x ∈ bytesOf s,0≤x∧x≤255:=by
 intro x hx
 simp only [bytesOf,List.mem_map] at hx
 obtain ⟨b,_,rfl⟩:=hx
 have:=b.toNat_lt
 omega
def leafH (a:ByteArray):ByteArray:=sha (0 :: bytesOf a)
def nodeH (a b:ByteArray):ByteArray:=sha (1 :: (bytesOf a ++ bytesOf b))
theorem leafH_size (a:ByteArray):(leafH a).size=32:=sha_size _
theorem nodeH_size (a b:ByteArray):(nodeH a b).size=32:=sha_size _
theorem cons_range {c:Int} {l:List Int} (h0:0≤c∧c≤255) (h:∀ x ∈ l,0≤x∧x≤255):∀ x ∈ c :: l,0≤x∧x≤255:=by
 intro x hx
 rcases List.mem_cons.1 hx with rfl|hx
 ·exact h0
 ·exact h x hx
theorem impl_leaf (a:ByteArray) (h:a.size≤1099511627775):impl_LeafHash.f a=some (leafH a):=by
 unfold impl_LeafHash.f
 simp only [Option.bind_some,List.length_cons,List.length_nil]
 rw [if_pos (by omega)]
 have e:([0]:List Int) ++ bytesOf a=0 :: bytesOf a:=rfl
 rw [e,impl_Digest_is _ (by rw [List.length_cons,bytesOf_length];omega)]
 rfl
theorem impl_node (a b:ByteArray) (h:a.size+b.size≤1099511627775):impl_NodeHash.f a b=some (nodeH a b):=by
 unfold impl_NodeHash.f
 simp only [Option.bind_some,List.length_cons,List.length_nil]
 rw [if_pos (by omega),if_pos (by simp [bytesOf_length];omega)]
 have e:[1] ++ bytesOf a ++ bytesOf b=1 :: (bytesOf a ++ bytesOf b):=rfl
 rw [e,impl_Digest_is _ (by rw [List.length_cons,List.length_append,bytesOf_length,bytesOf_length];omega)]
 rfl
theorem spec_leaf (a:ByteArray) (h:a.size≤1099511627775):Ev (fun k=>spec_LeafHash.f k a) (leafH a):=by
 refine Ev.congr (fun k=>?_) (Ev.bind (spec_Digest_ev (0 :: bytesOf a) (by rw [List.length_cons,bytesOf_length];omega) (cons_range (by omega) (bytesOf_range a))) (Ev.now _))
 unfold spec_LeafHash.f
 simp only [Option.bind_some,List.length_cons,List.length_nil]
 rw [if_pos (by omega)]
 rfl
theorem spec_node (a b:ByteArray) (h:a.size+b.size≤1099511627775):Ev (fun k=>spec_NodeHash.f k a b) (nodeH a b):=by
 refine Ev.congr (fun k=>?_) (Ev.bind (spec_Digest_ev (1 :: (bytesOf a ++ bytesOf b)) (by rw [List.length_cons,List.length_append,bytesOf_length,bytesOf_length];omega) (cons_range (by omega) (fun x hx=>?_))) (Ev.now _))
 ·unfold spec_NodeHash.f
  simp only [Option.bind_some,List.length_cons,List.length_nil]
  rw [if_pos (by omega),if_pos (by simp [bytesOf_length];omega)]
  rfl
 ·rcases List.mem_append.1 hx with hx|hx
  ·exact bytesOf_range _ x hx
  ·exact bytesOf_range _ x hx
def half (n:Nat):Nat:=2 ^ (n - 1).log2
theorem half_pos (n:Nat):1≤half n:=Nat.one_le_two_pow
theorem half_lt {n:Nat} (h:2≤n):half n < n:=by
 have:=Nat.log2_self_le (n:=n - 1) (by omega)
 unfold half
 omega
theorem half_l0 (n:Nat) (h2:2≤n) (hn:n≤4611686018427387904):∀ (d j:Nat),d+j=(n - 1).log2->Ev (fun k=>spec_l6Half.l0 k (n:Int) ((2 ^ j:Nat):Int)) ((half n:Nat):Int):=by
 have hself:=Nat.log2_self_le (n:=n - 1) (by omega)
 have hlt:=Nat.lt_log2_self (n:=n - 1)
 intro d
 induction d with
 | zero =>
  intro j hj
  obtain rfl:j=(n - 1).log2:=by omega
  refine Ev.step (f:=fun _=>some ((half n:Nat):Int)) (fun k=>?_) (Ev.now _)
  rw [Nat.pow_succ] at hlt
  simp only [spec_l6Half.l0]
  rw [w64 (by omega) (by omega),if_neg (by omega)]
  rfl
 | succ d ih =>
  intro j hj
  have hp:2 ^ (j+1)≤2 ^ (n - 1).log2:=Nat.pow_le_pow_right (by decide) (by omega)
  have hs:2 ^ (j+1)=2 ^ j * 2:=Nat.pow_succ _ _
  refine Ev.step (fun k=>?_) (ih (j+1) (by omega))
  simp only [spec_l6Half.l0]
  rw [w64 (by omega) (by omega),if_pos (by omega)]
  congr 1
  omega
theorem spec_half (n:Nat) (h2:2≤n) (hn:n≤4611686018427387904):Ev (fun k=>spec_l6Half.f k (n:Int)) ((half n:Nat):Int):=half_l0 n h2 hn (n - 1).log2 0 rfl
theorem half_same (k:Nat) (n x:Int):impl_half.l0 k n x=spec_l6Half.l0 k n x:=by
 induction k generalizing x with
 | zero=>simp only [impl_half.l0,spec_l6Half.l0]
 | succ k ih =>
  simp only [impl_half.l0,spec_l6Half.l0]
  rw [ih,Int.mul_comm]
theorem impl_half_ev (n:Nat) (h2:2≤n) (hn:n≤4611686018427387904):Ev (fun k=>impl_half.f k (n:Int)) ((half n:Nat):Int):=by
 refine Ev.congr (fun k=>?_) (spec_half n h2 hn)
 unfold impl_half.f spec_l6Half.f
 rw [half_same]
def rootBy (lf:ByteArray->ByteArray) (l:List ByteArray):ByteArray :=
 if h:2≤l.length then nodeH (rootBy lf (l.take (half l.length))) (rootBy lf (l.drop (half l.length)))
 else match l with
  | []=>sha []
  | a :: _=>lf a
termination_by l.length
decreasing_by
 ·have:=half_lt h
  simp
  omega
 ·have:=half_pos l.length
  simp
  omega
theorem rootBy_nil (lf:ByteArray->ByteArray):rootBy lf []=sha []:=by
 rw [rootBy]
 simp
theorem rootBy_one (lf:ByteArray->ByteArray) (a:ByteArray):rootBy lf [a]=lf a:=by
 rw [rootBy]
 simp
theorem rootBy_more (lf:ByteArray->ByteArray) {l:List ByteArray} (h:2≤l.length):rootBy lf l=nodeH (rootBy lf (l.take (half l.length))) (rootBy lf (l.drop (half l.length))):=by
 rw [rootBy,dif_pos h]
theorem list_one {l:List ByteArray} (h:l.length=1):∃ a,l=[a]:=by
 match l,h with
 | [a],_=>exact ⟨a,rfl⟩
theorem rootBy_size (lf:ByteArray->ByteArray) (b:Nat) (hb:32≤b) (l:List ByteArray) (hl:∀ x ∈ l,(lf x).size≤b):(rootBy lf l).size≤b:=by
 by_cases h:2≤l.length
 ·rw [rootBy_more lf h,nodeH_size]
  exact hb
 ·match l,h with
  | [],_=>rw [rootBy_nil,sha_size];exact hb
  | [a],_=>rw [rootBy_one];exact hl a (by simp)
  | _ :: _ :: _,h=>simp at h
theorem cut_parts (l:List ByteArray) (h:2≤l.length):1≤(l.take (half l.length)).length∧(l.take (half l.length)).length < l.length∧1≤(l.drop (half l.length)).length∧(l.drop (half l.length)).length < l.length:=by
 have h1:=half_pos l.length
 have h2:=half_lt h
 simp
 omega
theorem or_swap (a b:Int):Go.bits .or .i64 a b=Go.bits .or .i64 b a:=by
 have e:∀ x y:Int,Go.bits .or .i64 x y=IntKind.i64.wrap ((BitVec.ofInt 64 x ||| BitVec.ofInt 64 y).toNat:Int):=fun x y=>rfl
 rw [e,e,BitVec.or_comm]
def InB (l:List Int):Prop:=∀ x ∈ l,0≤x∧x≤255
theorem inB_nil:InB []:=fun x hx=>by simp at hx
theorem inB_app {a b:List Int} (ha:InB a) (hb:InB b):InB (a ++ b):=fun x hx=>by
 rcases List.mem_append.1 hx with hx|hx
 ·exact ha x hx
 ·exact hb x hx
theorem inB_text (s:ByteArray):InB (bytesOf s):=fun x hx=>bytesOf_range s x hx
def num (n:Nat):List Int:=if 127 < n then ((128+n % 128:Nat):Int) :: num (n / 128) else [(n:Int)]
termination_by n
decreasing_by omega
theorem num_more {n:Nat} (h:127 < n):num n=((128+n % 128:Nat):Int) :: num (n / 128):=by rw [num,if_pos h]
theorem num_one {n:Nat} (h:¬ 127 < n):num n=[(n:Int)]:=by rw [num,if_neg h]
theorem num_inB (n:Nat):InB (num n):=by
 induction n using Nat.strongRecOn with
 | ind n ih =>
  by_cases h:127 < n
  ·rw [num_more h]
   intro x hx
   rcases List.mem_cons.1 hx with hx|hx
   ·omega
   ·exact ih (n / 128) (by omega) x hx
  ·rw [num_one h]
   intro x hx
   rw [List.mem_singleton.1 hx]
   omega
theorem num_pos (n:Nat):1≤(num n).length:=by
 by_cases h:127 < n
 ·rw [num_more h]
  simp
 ·rw [num_one h]
  simp
theorem num_len:∀ (k n:Nat),n < 128 ^ (k+1)->(num n).length≤k+1:=by
 intro k
 induction k with
 | zero =>
  intro n h
  rw [num_one (by omega)]
  simp
 | succ k ih =>
  intro n h
  by_cases h2:127 < n
  ·rw [num_more h2,List.length_cons]
   have:=ih (n / 128) (by rw [Nat.pow_succ] at h;omega)
   omega
  ·rw [num_one h2]
   simp
theorem num_five {n:Nat} (h:n≤1000000000):(num n).length≤5:=num_len 4 n (by omega)
theorem num_inj:∀ (n m:Nat) (r s:List Int),num n ++ r=num m ++ s->n=m∧r=s:=by
 intro n
 induction n using Nat.strongRecOn with
 | ind n ih =>
  intro m r s h
  by_cases h1:127 < n
  ·by_cases h2:127 < m
   ·rw [num_more h1,num_more h2,List.cons_append,List.cons_append] at h
    injection h with ha hb
    obtain ⟨e1,e2⟩:=ih (n / 128) (by omega) (m / 128) r s hb
    exact ⟨by omega,e2⟩
   ·rw [num_more h1,num_one h2,List.cons_append,List.cons_append] at h
    injection h with ha hb
    omega
  ·by_cases h2:127 < m
   ·rw [num_one h1,num_more h2,List.cons_append,List.cons_append] at h
    injection h with ha hb
    omega
   ·rw [num_one h1,num_one h2,List.cons_append,List.cons_append] at h
    injection h with ha hb
    exact ⟨by omega,by simpa using hb⟩
def textB (s:ByteArray):List Int:=num s.size ++ bytesOf s
def manyB (t:List ByteArray):List Int:=(t.map textB).flatten
def textsB (t:List ByteArray):List Int:=num t.length ++ manyB t
theorem textB_inB (s:ByteArray):InB (textB s):=inB_app (num_inB _) (inB_text s)
theorem manyB_nil:manyB []=[]:=rfl
theorem manyB_cons (s:ByteArray) (t:List ByteArray):manyB (s :: t)=textB s ++ manyB t:=rfl
theorem textB_length (s:ByteArray):(textB s).length=(num s.size).length+s.size:=by
 unfold textB
 rw [List.length_append,bytesOf_length]
theorem bytesOf_inj {a b:ByteArray} (h:bytesOf a=bytesOf b):a=b:=by
 apply bytes_ext
 rw [Go.Lib.toList_data,Go.Lib.toList_data]
 unfold bytesOf at h
 refine List.map_inj_right (fun x y e=>?_) |>.1 h
 exact UInt8.toNat_inj.1 (by omega)
theorem textB_inj {a b:ByteArray} {r s:List Int} (h:textB a ++ r=textB b ++ s):a=b∧r=s:=by
 unfold textB at h
 rw [List.append_assoc,List.append_assoc] at h
 obtain ⟨h1,h2⟩:=num_inj _ _ _ _ h
 obtain ⟨h3,h4⟩:=List.append_inj h2 (by rw [bytesOf_length,bytesOf_length,h1])
 exact ⟨bytesOf_inj h3,h4⟩
theorem manyB_inj:∀ (a b:List ByteArray) (r s:List Int),a.length=b.length->manyB a ++ r=manyB b ++ s->a=b∧r=s:=by
 intro a
 induction a with
 | nil =>
  intro b r s hl h
  obtain rfl:=List.eq_nil_of_length_eq_zero hl.symm
  exact ⟨rfl,by simpa [manyB_nil] using h⟩
 | cons x a ih =>
  intro b r s hl h
  cases b with
  | nil=>cases hl
  | cons y b =>
   rw [manyB_cons,manyB_cons,List.append_assoc,List.append_assoc] at h
   obtain ⟨e1,e2⟩:=textB_inj h
   obtain ⟨e3,e4⟩:=ih b r s (by simpa using hl) e2
   exact ⟨by rw [e1,e3],e4⟩
theorem textsB_inj {a b:List ByteArray} {r s:List Int} (h:textsB a ++ r=textsB b ++ s):a=b∧r=s:=by
 unfold textsB at h
 rw [List.append_assoc,List.append_assoc] at h
 obtain ⟨h1,h2⟩:=num_inj _ _ _ _ h
 exact manyB_inj a b r s h1 h2
theorem and127 (c:Int) (h0:0≤c) (h1:c < 9223372036854775808):Go.bits .and .i64 c 127=c % 128:=bits_mask .i64 63 (by decide) wraps63 7 (by decide) c h0 h1
theorem or128 (c:Int) (h0:0≤c) (h1:c < 128):Go.bits .or .i64 c 128=128+c:=by
 rw [or_swap]
 exact bits_join .i64 63 (by decide) wraps63 7 128 c (by decide) (by decide) (by decide) h0 h1 (by omega)
theorem bit_at (n c p u:Int) (e:Nat) (hu:u=(e:Int)) (he:e≤28) (hp:p=2 ^ e) (hq:p≤268435456) (hn0:0≤n) (hn1:n < p) (hc0:0≤c) (hc1:c≤255):Go.bits .or .i64 n (shl .i64 (Go.bits .and .i64 c 127) u)=n+p * (c % 128):=by
 rw [and127 c hc0 (by omega)]
 obtain ⟨d,hd⟩:∃ d,c % 128=d:=⟨_,rfl⟩
 have hd0:0≤d:=by omega
 have hd1:d≤127:=by omega
 rw [hd]
 have hp0:0≤p:=by omega
 have hm:d * p≤127 * 268435456:=Int.mul_le_mul hd1 hq hp0 (by decide)
 have hm0:0≤d * p:=Int.mul_nonneg hd0 hp0
 have hs:shl .i64 d u=d * p:=by
  unfold shl
  rw [hu,Int.toNat_natCast,Nat.min_eq_left (show e≤IntKind.i64.bits by show e≤64;omega),← hp]
  exact wraps63 _ hm0 (by omega)
 rw [hs,or_swap,bits_join .i64 63 (by decide) wraps63 e (d * p) n hm0 (by rw [hp];exact Int.mul_emod_left _ _) (by omega) hn0 (by rw [← hp];exact hn1) (by omega),Int.mul_comm d p]
 omega
theorem u64_w (n:Int):IntKind.u64.wrap n=n % 18446744073709551616:=by simp [IntKind.wrap,IntKind.bits,IntKind.signed]
theorem u7 (k:Nat) (hk:k≤4):IntKind.u64.wrap (wrap64 (7 * (k:Int)))=((7 * k:Nat):Int):=by
 rw [w64 (by omega) (by omega),u64_w]
 omega
theorem pow7 (k:Nat):(128:Nat) ^ k=2 ^ (7 * k):=by rw [Nat.pow_mul]
theorem bit_step (n c k:Nat) (hk:k≤4) (hn:n < 128 ^ k) (hc:c≤255):Go.bits .or .i64 (n:Int) (shl .i64 (Go.bits .and .i64 (c:Int) 127) ((7 * k:Nat):Int))=((n+128 ^ k * (c % 128):Nat):Int):=by
 have h4:(128:Nat) ^ k≤128 ^ 4:=Nat.pow_le_pow_right (by decide) hk
 have h5:(128:Nat) ^ 4=268435456:=by decide
 have e:=pow7 k
 have:=bit_at (n:Int) (c:Int) ((128 ^ k:Nat):Int) _ (7 * k) rfl (by omega) (by rw [e,Int.natCast_pow];rfl) (by omega) (by omega) (by omega) (by omega) (by omega)
 rw [this,Int.natCast_add,Int.natCast_mul,Int.natCast_emod]
 rfl
def NumAt (b:List Int) (a k n:Nat) (m x:Int) (ok:Bool):Prop :=
 (ok=false->m=0∧x=0∧∀ N r,b.drop (a+k)=num N ++ r->n+128 ^ k * N≤1000000000->(0 < k->0 < N)->False) ∧
 (ok=true->∃ N:Nat,m=((n+128 ^ k * N:Nat):Int)∧n+128 ^ k * N≤1000000000∧(0 < k->0 < N)∧b.drop (a+k)=num N ++ b.drop (a+k+(num N).length)∧x=((a+k+(num N).length:Nat):Int)∧a+k+(num N).length≤b.length)
theorem numAt_more {b:List Int} {a k n c:Nat} {m x:Int} {ok:Bool} (hk:k≤4) (hd:b.drop (a+k)=(c:Int) :: b.drop (a+k+1)) (hc:127 < c) (hc2:c≤255) (h:NumAt b a (k+1) (n+128 ^ k * (c % 128)) m x ok):NumAt b a k n m x ok:=by
 have e:∀ N,n+128 ^ k * (c % 128) + 128 ^ (k+1) * N=n+128 ^ k * (c % 128+128 * N):=fun N=>by
  rw [Nat.pow_succ,Nat.mul_add,Nat.mul_assoc]
  omega
 refine ⟨fun ho=>?_,fun ho=>?_⟩
 ·obtain ⟨h1,h2,h3⟩:=h.1 ho
  refine ⟨h1,h2,fun N r hN hM hP=>?_⟩
  by_cases h9:127 < N
  ·rw [num_more h9,hd,List.cons_append] at hN
   injection hN with ha hb
   refine h3 (N / 128) r hb ?_ (fun _=>by omega)
   rw [e]
   have:c % 128+128 * (N / 128)=N:=by omega
   rw [this]
   exact hM
  ·rw [num_one h9,hd,List.cons_append] at hN
   injection hN with ha hb
   omega
 ·obtain ⟨N,h1,h2,h3,h4,h5,h6⟩:=h.2 ho
  have h3:=h3 (by omega)
  have hN:127 < c % 128+128 * N:=by omega
  have hn:num (c % 128+128 * N)=(c:Int) :: num N:=by
   rw [num_more hN,show (c % 128+128 * N) / 128=N by omega]
   congr 1
   omega
  refine ⟨c % 128+128 * N,by rw [h1,e],by rw [← e];exact h2,fun _=>by omega,?_,?_,?_⟩
  ·rw [hn,hd,List.length_cons,List.cons_append]
   congr 1
   rw [show a+k+((num N).length+1)=a+(k+1) + (num N).length by omega]
   exact h4
  ·rw [hn,List.length_cons,h5]
   congr 1
   omega
  ·rw [hn,List.length_cons]
   omega
theorem numAt_zero {b:List Int} {a k n:Nat} (hk:0 < k) (hd:b.drop (a+k)=(0:Int) :: b.drop (a+k+1)):NumAt b a k n 0 0 false:=by
 refine ⟨fun _=>⟨rfl,rfl,fun N r hN hM hP=>?_⟩,fun h=>by cases h⟩
 have hP:=hP hk
 by_cases h9:127 < N
 ·rw [num_more h9,hd,List.cons_append] at hN
  injection hN with ha hb
  omega
 ·rw [num_one h9,hd,List.cons_append] at hN
  injection hN with ha hb
  omega
theorem numAt_great {b:List Int} {a k n c:Nat} (hc:¬ 127 < c) (hd:b.drop (a+k)=(c:Int) :: b.drop (a+k+1)) (hg:1000000000 < n+128 ^ k * (c % 128)):NumAt b a k n 0 0 false:=by
 refine ⟨fun _=>⟨rfl,rfl,fun N r hN hM hP=>?_⟩,fun h=>by cases h⟩
 by_cases h9:127 < N
 ·rw [num_more h9,hd,List.cons_append] at hN
  injection hN with ha hb
  omega
 ·rw [num_one h9,hd,List.cons_append] at hN
  injection hN with ha hb
  have:c % 128=N:=by omega
  rw [this] at hg
  omega
theorem numAt_last {b:List Int} {a k n c:Nat} (hc:¬ 127 < c) (h0:0 < k->0 < c) (hl:a+k < b.length) (hd:b.drop (a+k)=(c:Int) :: b.drop (a+k+1)) (hg:n+128 ^ k * (c % 128)≤1000000000):NumAt b a k n ((n+128 ^ k * (c % 128):Nat):Int) ((a+k+1:Nat):Int) true:=by
 refine ⟨fun h=>(by cases h),fun _=>⟨c,?_,?_,h0,?_,?_,?_⟩⟩
 ·rw [show c % 128=c by omega]
 ·rw [show c % 128=c by omega] at hg
  exact hg
 ·rw [num_one hc,hd]
  simp
 ·rw [num_one hc]
  simp
 ·rw [num_one hc]
  simp
  omega
theorem numAt_end {b:List Int} {a k n:Nat} (hl:b.length≤a+k):NumAt b a k n 0 0 false:=by
 refine ⟨fun _=>⟨rfl,rfl,fun N r hN hM hP=>?_⟩,fun h=>by cases h⟩
 rw [List.drop_eq_nil_of_le hl] at hN
 have:=congrArg List.length hN
 have h2:=num_pos N
 rw [List.length_append] at this
 simp only [List.length_nil] at this
 omega
theorem numAt_five {b:List Int} {a n:Nat}:NumAt b a 5 n 0 0 false:=by
 refine ⟨fun _=>⟨rfl,rfl,fun N r hN hM hP=>?_⟩,fun h=>by cases h⟩
 have hP:=hP (by decide)
 omega
set_option maxHeartbeats 1000000 in
theorem getNum_loop (b:List Int) (hb:InB b) (hl:b.length≤1099511627776) (a:Nat) (hA:a≤1099511627776):∀ (d k:Nat),k+d=5->∀ n:Nat,n < 128 ^ k->∃ m x ok,Ev (fun q=>spec_GetNum.l0 q b (a:Int) (n:Int) (k:Int)) (m,x,ok)∧Ev (fun q=>impl_GetNum.l0 q b ((a+k:Nat):Int) (n:Int) (k:Int)) (m,x,ok)∧NumAt b a k n m x ok:=by
 have sEnd:∀ (n k:Int),Ev (fun q=>spec_GetNum.j1 q b (a:Int) n k false) (0,0,false):=fun n k=>by
  refine Ev.step (fun q=>by simp only [spec_GetNum.j1];rfl) ?_
  exact Ev.neg (by simp) (Ev.now _)
 have iEnd:∀ (x n k:Int),Ev (fun q=>impl_GetNum.j1 q b x n k false) (0,0,false):=fun x n k=>by
  refine Ev.step (fun q=>by simp only [impl_GetNum.j1];rfl) ?_
  exact Ev.neg (by simp) (Ev.now _)
 intro d
 induction d with
 | zero =>
  intro k hk n hn
  obtain rfl:k=5:=by omega
  refine ⟨0,0,false,?_,?_,numAt_five⟩
  ·refine Ev.step (fun q=>by simp only [spec_GetNum.l0];rfl) ?_
   exact Ev.neg (by omega) (sEnd _ _)
  ·refine Ev.step (fun q=>by simp only [impl_GetNum.l0];rfl) ?_
   exact Ev.neg (by omega) (iEnd _ _ _)
 | succ d ih =>
  intro k hk n hn
  have hk4:k≤4:=by omega
  have e1:=am_ (show wrap64 ((a:Int) + (k:Int))=((a+k:Nat):Int) by
   rw [w64 (by omega) (by omega)]
   omega)
  have hk5:(k:Int) < 5:=by omega
  by_cases hx:a+k < b.length
  ·obtain ⟨c,hc⟩:=get_some (l:=b) (i:=a+k) hx
   have hd:=drop_one hc
   have hcr:=hb c (List.mem_of_getElem? hc)
   obtain ⟨c,rfl⟩:=Int.eq_ofNat_of_zero_le hcr.1
   have hc255:c≤255:=by omega
   have e2:=am_ (show rd b ((a+k:Nat):Int)=(c:Int) from rd_at hc)
   have e3:=am_ (show wrap64 (c:Int)=(c:Int) from w64 (by omega) (by omega))
   have e4:=am_ (u7 k hk4)
   have e5:=am_ (bit_step n c k hk4 hn hc255)
   have e6:=am_ (show wrap64 ((k:Int) + 1)=((k+1:Nat):Int) by
    rw [w64 (by omega) (by omega)]
    omega)
   have e7:=am_ (show wrap64 (((a+k:Nat):Int) + 1)=((a+(k+1):Nat):Int) by
    rw [w64 (by omega) (by omega)]
    omega)
   have hlt:((a+k:Nat):Int) < (b.length:Int):=by omega
   have h70:(0:Int)≤((7 * k:Nat):Int):=by omega
   have ha0:(0:Int)≤((a+k:Nat):Int):=by omega
   have key:∀ r,Ev (fun q=>spec_GetNum.j1 q b (a:Int) (n:Int) (k:Int) true) r->Ev (fun q=>spec_GetNum.l0 q b (a:Int) (n:Int) (k:Int)) r:=fun r h=>by
    refine Ev.step (fun q=>by simp only [spec_GetNum.l0,e1.out,decide_eq_true hlt];rfl) ?_
    exact Ev.pos hk5 (Ev.pos (by omega) (Ev.pos (by omega) h))
   have key2:∀ r,Ev (fun q=>impl_GetNum.j1 q b ((a+k:Nat):Int) (n:Int) (k:Int) true) r->Ev (fun q=>impl_GetNum.l0 q b ((a+k:Nat):Int) (n:Int) (k:Int)) r:=fun r h=>by
    refine Ev.step (fun q=>by simp only [impl_GetNum.l0,decide_eq_true hlt];rfl) ?_
    exact Ev.pos hk5 h
   by_cases h127:127 < c
   ·have hn2:n+128 ^ k * (c % 128) < 128 ^ (k+1):=by
     have:=Nat.mul_le_mul_left (128 ^ k) (show c % 128≤127 by omega)
     rw [Nat.pow_succ]
     omega
    obtain ⟨m,x,ok,s1,s2,s3⟩:=ih (k+1) (by omega) _ hn2
    refine ⟨m,x,ok,key _ ?_,key2 _ ?_,numAt_more hk4 hd h127 hc255 s3⟩
    ·refine Ev.step (fun q=>by simp only [spec_GetNum.j1,e1.out,e2.out,e3.out,e4.out,e5.out,e6.out];rfl) ?_
     exact Ev.pos trivial (Ev.pos ha0 (Ev.pos hlt (Ev.pos h70 (Ev.pos (by omega) s1))))
    ·refine Ev.step (fun q=>by simp only [impl_GetNum.j1,e2.out,e3.out,e4.out,e5.out,e6.out,e7.out];rfl) ?_
     exact Ev.pos trivial (Ev.pos ha0 (Ev.pos hlt (Ev.pos h70 (Ev.neg (by omega) s2))))
   ·by_cases hz:0 < k∧c=0
    ·obtain ⟨hk0,rfl⟩:=hz
     refine ⟨0,0,false,key _ ?_,key2 _ ?_,numAt_zero hk0 hd⟩
     ·refine Ev.step (fun q=>by simp only [spec_GetNum.j1,e1.out,e2.out,e3.out,e4.out,e5.out,e6.out];rfl) ?_
      exact Ev.pos trivial (Ev.pos ha0 (Ev.pos hlt (Ev.pos h70 (Ev.neg (by omega) (Ev.pos (by omega) (Ev.pos (by omega) (Ev.now _)))))))
     ·refine Ev.step (fun q=>by simp only [impl_GetNum.j1,e2.out,e3.out,e4.out,e5.out,e6.out,e7.out];rfl) ?_
      exact Ev.pos trivial (Ev.pos ha0 (Ev.pos hlt (Ev.pos h70 (Ev.pos (by omega) (Ev.pos (by omega) (Ev.pos (by omega) (Ev.now _)))))))
    ·obtain ⟨v,hv⟩:∃ v,n+128 ^ k * (c % 128)=v:=⟨_,rfl⟩
     by_cases hg:1000000000 < v
     ·refine ⟨0,0,false,key _ ?_,key2 _ ?_,numAt_great h127 hd (by rw [hv];exact hg)⟩
      ·refine Ev.step (fun q=>by simp only [spec_GetNum.j1,e1.out,e2.out,e3.out,e4.out,e5.out,e6.out,hv];rfl) ?_
       refine Ev.pos trivial (Ev.pos ha0 (Ev.pos hlt (Ev.pos h70 (Ev.neg (by omega) ?_))))
       by_cases hk0:0 < k
       ·exact Ev.pos (by omega) (Ev.neg (by omega) (Ev.pos (by omega) (Ev.now _)))
       ·exact Ev.neg (by omega) (Ev.pos (by omega) (Ev.now _))
      ·refine Ev.step (fun q=>by simp only [impl_GetNum.j1,e2.out,e3.out,e4.out,e5.out,e6.out,e7.out,hv];rfl) ?_
       refine Ev.pos trivial (Ev.pos ha0 (Ev.pos hlt (Ev.pos h70 (Ev.pos (by omega) ?_))))
       by_cases hc0:c=0
       ·exact Ev.pos (by omega) (Ev.neg (by omega) (Ev.pos (by omega) (Ev.now _)))
       ·exact Ev.neg (by omega) (Ev.pos (by omega) (Ev.now _))
     ·have hlast:=numAt_last (n:=n) h127 (fun hk0=>by omega) hx hd (by rw [hv];omega)
      rw [hv] at hlast
      refine ⟨(v:Int),((a+k+1:Nat):Int),true,key _ ?_,key2 _ ?_,hlast⟩
      ·refine Ev.step (fun q=>by simp only [spec_GetNum.j1,e1.out,e2.out,e3.out,e4.out,e5.out,e6.out,e7.out,hv];rfl) ?_
       refine Ev.pos trivial (Ev.pos ha0 (Ev.pos hlt (Ev.pos h70 (Ev.neg (by omega) ?_))))
       by_cases hk0:0 < k
       ·exact Ev.pos (by omega) (Ev.neg (by omega) (Ev.neg (by omega) (Ev.now _)))
       ·exact Ev.neg (by omega) (Ev.neg (by omega) (Ev.now _))
      ·refine Ev.step (fun q=>by simp only [impl_GetNum.j1,e2.out,e3.out,e4.out,e5.out,e6.out,e7.out,hv];rfl) ?_
       refine Ev.pos trivial (Ev.pos ha0 (Ev.pos hlt (Ev.pos h70 (Ev.pos (by omega) ?_))))
       by_cases hc0:c=0
       ·exact Ev.pos (by omega) (Ev.neg (by omega) (Ev.neg (by omega) (Ev.now _)))
       ·exact Ev.neg (by omega) (Ev.neg (by omega) (Ev.now _))
  ·refine ⟨0,0,false,?_,?_,numAt_end (by omega)⟩
   ·have hn:¬ ((a+k:Nat):Int) < (b.length:Int):=by omega
    refine Ev.step (fun q=>by simp only [spec_GetNum.l0,e1.out,decide_eq_false hn];rfl) ?_
    refine Ev.pos hk5 (Ev.pos (by omega) ?_)
    by_cases h2:(a:Int) < (b.length:Int)
    ·exact Ev.pos h2 (sEnd _ _)
    ·exact Ev.neg h2 (sEnd _ _)
   ·have hn:¬ ((a+k:Nat):Int) < (b.length:Int):=by omega
    refine Ev.step (fun q=>by simp only [impl_GetNum.l0,decide_eq_false hn];rfl) ?_
    exact Ev.pos hk5 (iEnd _ _ _)
def NumOf (b:List Int) (at_ m x:Int) (ok:Bool):Prop :=
 (ok=false->m=0∧x=0∧∀ (a N:Nat) r,at_=(a:Int)->b.drop a=num N ++ r->N≤1000000000->False) ∧
 (ok=true->∃ a N:Nat,at_=(a:Int)∧m=(N:Int)∧N≤1000000000∧b.drop a=num N ++ b.drop (a+(num N).length)∧x=((a+(num N).length:Nat):Int)∧a+(num N).length≤b.length)
theorem getNum_both (b:List Int) (hb:InB b) (hl:b.length≤1099511627776) (at_:Int) (h0:-9223372036854775808≤at_) (h1:at_≤9223372036854775807):∃ m x ok,Ev (fun q=>spec_GetNum.f q b at_) (m,x,ok)∧Ev (fun q=>impl_GetNum.f q b at_) (m,x,ok)∧NumOf b at_ m x ok:=by
 have hw:wrap64 ((b.length:Int) - 1)=(b.length:Int) - 1:=w64 (by omega) (by omega)
 by_cases hr:0≤at_∧at_≤(b.length:Int) - 1
 ·obtain ⟨a,rfl⟩:=Int.eq_ofNat_of_zero_le hr.1
  obtain ⟨m,x,ok,s1,s2,s3⟩:=getNum_loop b hb hl a (by omega) 5 0 rfl 0 (by decide)
  refine ⟨m,x,ok,?_,?_,?_⟩
  ·exact s1
  ·unfold impl_GetNum.f
   rw [hw]
   exact Ev.bind (Ev.const (impl_in_eq _ _ _)) (Ev.pos (decide_eq_true hr) s2)
  ·refine ⟨fun ho=>?_,fun ho=>?_⟩
   ·obtain ⟨q1,q2,q3⟩:=s3.1 ho
    refine ⟨q1,q2,fun a' N r ha' hN hM=>?_⟩
    obtain rfl:a=a':=by omega
    exact q3 N r hN (by simpa using hM) (fun h=>by omega)
   ·obtain ⟨N,q1,q2,_,q4,q5,q6⟩:=s3.2 ho
    exact ⟨a,N,rfl,by simpa using q1,by simpa using q2,by simpa using q4,by simpa using q5,by simpa using q6⟩
 ·refine ⟨0,0,false,?_,?_,?_⟩
  ·unfold spec_GetNum.f
   refine Ev.step (fun q=>by simp only [spec_GetNum.l0];rfl) ?_
   have hj:∀ x:Bool,x=false->Ev (fun q=>spec_GetNum.j1 q b at_ 0 0 x) (0,0,false):=fun x hx=>by
    subst hx
    refine Ev.step (fun q=>by simp only [spec_GetNum.j1];rfl) ?_
    exact Ev.neg (by simp) (Ev.now _)
   refine Ev.pos (by decide) ?_
   by_cases h2:at_ ≥ 0
   ·refine Ev.pos h2 (Ev.neg (by omega) (hj _ rfl))
   ·exact Ev.neg h2 (hj _ rfl)
  ·unfold impl_GetNum.f
   rw [hw]
   exact Ev.bind (Ev.const (impl_in_eq _ _ _)) (Ev.neg (by rw [decide_eq_false hr];simp) (Ev.now _))
  ·refine ⟨fun _=>⟨rfl,rfl,fun a N r ha hN hM=>?_⟩,fun h=>by cases h⟩
   have h2:=num_pos N
   have:=congrArg List.length hN
   rw [List.length_append,List.length_drop] at this
   omega
theorem byte_more (x:Nat) (h:x≤1000000000):(Go.bits .or .i64 (Go.bits .and .i64 (x:Int) 127) 128) % 256=((128+x % 128:Nat):Int):=by
 rw [and127 _ (by omega) (by omega),or128 _ (by omega) (by omega)]
 omega
theorem num_val:∀ (k x:Nat) (acc:List Int),x < 128 ^ (k+1)->x≤1000000000->acc.length+k≤1099511627776 →
  Ev (fun q=>spec_PutNum.l0 q (x:Int) acc) (acc ++ num x)∧Ev (fun q=>impl_putNum.l0 q acc (x:Int)) (acc ++ num x):=by
 intro k
 induction k with
 | zero =>
  intro x acc h1 h2 h3
  have hx:¬ (x:Int) > 127:=by omega
  have e:(x:Int) % 256=(x:Int):=by omega
  rw [num_one (by omega)]
  refine ⟨?_,?_⟩
  ·refine Ev.step (fun q=>by simp only [spec_PutNum.l0,e];rfl) ?_
   exact Ev.neg hx (Ev.pos (by omega) (Ev.now _))
  ·refine Ev.step (fun q=>by simp only [impl_putNum.l0,e];rfl) ?_
   exact Ev.neg hx (Ev.pos (by omega) (Ev.now _))
 | succ k ih =>
  intro x acc h1 h2 h3
  by_cases hx:(x:Int) > 127
  ·have e1:=am_ (byte_more x h2)
   have e2:=am_ (show (x:Int) / 128=((x / 128:Nat):Int) by omega)
   have hp:x / 128 < 128 ^ (k+1):=by
    rw [Nat.pow_succ] at h1
    omega
   obtain ⟨i1,i2⟩:=ih (x / 128) (acc ++ [((128+x % 128:Nat):Int)]) hp (by omega) (by simp;omega)
   have en:acc ++ num x=acc ++ [((128+x % 128:Nat):Int)] ++ num (x / 128):=by
    rw [num_more (by omega)]
    simp
   rw [en]
   refine ⟨?_,?_⟩
   ·refine Ev.step (fun q=>by simp only [spec_PutNum.l0,e1.out,e2.out];rfl) ?_
    exact Ev.pos hx (Ev.pos (by omega) i1)
   ·refine Ev.step (fun q=>by simp only [impl_putNum.l0,or_swap 128 (Go.bits .and .i64 (x:Int) 127),e1.out,e2.out];rfl) ?_
    exact Ev.pos hx (Ev.pos (by omega) i2)
  ·have e:(x:Int) % 256=(x:Int):=by omega
   rw [num_one (by omega)]
   refine ⟨?_,?_⟩
   ·refine Ev.step (fun q=>by simp only [spec_PutNum.l0,e];rfl) ?_
    exact Ev.neg hx (Ev.pos (by omega) (Ev.now _))
   ·refine Ev.step (fun q=>by simp only [impl_putNum.l0,e];rfl) ?_
    exact Ev.neg hx (Ev.pos (by omega) (Ev.now _))
theorem putNum_val (l:List Int) (n:Nat) (hn:n≤1000000000) (hl:l.length≤1099511627000):Ev (fun q=>spec_PutNum.f q l (n:Int)) (l ++ num n)∧Ev (fun q=>impl_putNum.f q l (n:Int)) (l ++ num n):=by
 have hm:mx 0 (mn (n:Int) 1000000000)=(n:Int):=by
  unfold mx mn
  by_cases h:(1000000000:Int) < (n:Int)
  ·omega
  ·rw [if_neg h]
   by_cases h2:(0:Int) < (n:Int)
   ·rw [if_pos h2]
   ·rw [if_neg h2]
    omega
 obtain ⟨i1,i2⟩:=num_val 4 n l (by omega) hn (by omega)
 refine ⟨?_,?_⟩
 ·unfold spec_PutNum.f
  refine Ev.bind (Ev.now _) ?_
  simp only [List.nil_append,List.length_nil]
  refine Ev.pos (by omega) (Ev.bind (Ev.now _) (Ev.neg (by omega) ?_))
  refine Ev.step (fun q=>by simp only [spec_PutNum.j0];rfl) ?_
  refine Ev.neg (by omega) ?_
  exact Ev.step (fun q=>by simp only [spec_PutNum.j1]) i1
 ·unfold impl_putNum.f
  rw [hm]
  exact i2
theorem putText_val (l:List Int) (s:ByteArray) (hs:s.size≤1000000000) (hl:l.length≤1099511626000):Ev (fun q=>spec_PutText.f q l s) (l ++ textB s)∧Ev (fun q=>impl_putText.f q l s) (l ++ textB s):=by
 obtain ⟨i1,i2⟩:=putNum_val l s.size hs (by omega)
 have h5:=num_five hs
 unfold textB
 rw [← List.append_assoc]
 refine ⟨?_,?_⟩
 ·unfold spec_PutText.f
  exact Ev.bind i1 (Ev.pos (by rw [List.length_append];omega) (Ev.now _))
 ·unfold impl_putText.f
  exact Ev.bind i2 (Ev.pos (by rw [List.length_append];omega) (Ev.now _))
theorem manyB_length (t:List ByteArray) (h:∀ s ∈ t,s.size≤1000000000):((manyB t).length:Int)≤5 * t.length+total t:=by
 induction t with
 | nil=>simp [manyB_nil,total]
 | cons s t ih =>
  have i:=ih (fun x hx=>h x (List.mem_cons_of_mem _ hx))
  have h5:=num_five (h s (List.mem_cons_self ..))
  rw [manyB_cons,List.length_append,textB_length,total_cons,List.length_cons]
  omega
set_option maxHeartbeats 1000000 in
theorem putTexts_val (l:List Int) (t:List ByteArray) (hl:(l.length:Int) + 10 * t.length+total t≤1099511620000) (ht:t.length≤1000000000) (hs:∀ s ∈ t,s.size≤1000000000) :
  Ev (fun q=>spec_PutTexts.f q l t) (l ++ textsB t)∧Ev (fun q=>impl_putTexts.f q l t) (l ++ textsB t):=by
 have ht0:=total_nonneg t
 obtain ⟨e1,e2⟩:=putNum_val l t.length ht (by omega)
 have h5:=num_five ht
 have main:∀ (d i:Nat) (acc:List Int),i+d=t.length->(acc.length:Int) + 10 * d+total (t.drop i)≤1099511621000->Ev (fun q=>spec_PutTexts.l0 q t acc (i:Int)) (acc ++ manyB (t.drop i))∧Ev (fun q=>impl_putTexts.l0 q acc t (t.length:Int) (i:Int)) (acc ++ manyB (t.drop i)):=by
  intro d
  induction d with
  | zero =>
   intro i acc hi ha
   have hd:t.drop i=[]:=List.drop_eq_nil_of_le (by omega)
   rw [hd,manyB_nil,List.append_nil]
   refine ⟨?_,?_⟩
   ·refine Ev.step (fun q=>by simp only [spec_PutTexts.l0];rfl) ?_
    exact Ev.neg (by omega) (Ev.now _)
   ·refine Ev.step (fun q=>by simp only [impl_putTexts.l0];rfl) ?_
    exact Ev.neg (by omega) (Ev.now _)
  | succ d ih =>
   intro i acc hi ha
   have hi1:i < t.length:=by
    clear ha hl
    omega
   have hI:(i:Int) < (t.length:Int):=Int.ofNat_lt.2 hi1
   have hI0:(0:Int)≤(i:Int):=Int.natCast_nonneg i
   obtain ⟨x,hx⟩:=get_some (l:=t) (i:=i) hi1
   have hd:=drop_one hx
   have hxs:=hs x (List.mem_of_getElem? hx)
   have hx5:=num_five hxs
   have h0:=total_nonneg (t.drop (i+1))
   rw [hd,total_cons] at ha
   obtain ⟨p1,p2⟩:=putText_val acc x hxs (by omega)
   obtain ⟨f1,f2⟩:=ih (i+1) (acc ++ textB x) (by omega) (by rw [List.length_append,textB_length];omega)
   have nx:wrap64 ((i:Int) + 1)=((i+1:Nat):Int):=by
    clear ha hl
    rw [w64 (by omega) (by omega)]
    omega
   have en:acc ++ manyB (t.drop i)=acc ++ textB x ++ manyB (t.drop (i+1)):=by rw [hd,manyB_cons,List.append_assoc]
   rw [en]
   refine ⟨?_,?_⟩
   ·refine Ev.step (fun q=>by simp only [spec_PutTexts.l0];rfl) ?_
    rw [rdOf_at hx,nx]
    refine Ev.pos hI (Ev.pos hI0 ?_)
    exact Ev.bind (f:=fun q z=>spec_PutTexts.l0 q t z ((i+1:Nat):Int)) p1 f1
   ·refine Ev.step (fun q=>by simp only [impl_putTexts.l0];rfl) ?_
    rw [rdOf_at hx,nx]
    refine Ev.pos hI (Ev.pos hI0 (Ev.pos hI ?_))
    exact Ev.bind (f:=fun q z=>impl_putTexts.l0 q z t (t.length:Int) ((i+1:Nat):Int)) p2 f2
 obtain ⟨f1,f2⟩:=main t.length 0 (l ++ num t.length) (by omega) (by rw [List.length_append,List.drop_zero];omega)
 rw [List.drop_zero] at f1 f2
 unfold textsB
 rw [← List.append_assoc]
 refine ⟨?_,?_⟩
 ·unfold spec_PutTexts.f
  exact Ev.bind e1 f1
 ·unfold impl_putTexts.f
  exact Ev.bind e2 f2
theorem bytes_nums (l:List Int) (h:InB l):bytesOf (strOfNums l)=l:=by
 unfold bytesOf
 rw [strOfNums_data,List.map_map]
 conv=>rhs;rw [← List.map_id l]
 apply List.map_congr_left
 intro x hx
 have:=h x hx
 simp only [Function.comp,id]
 rw [UInt8.toNat_ofNat']
 omega
theorem inB_take {l:List Int} (h:InB l) (n:Nat):InB (l.take n):=fun x hx=>h x (List.mem_of_mem_take hx)
theorem inB_drop {l:List Int} (h:InB l) (n:Nat):InB (l.drop n):=fun x hx=>h x (List.mem_of_mem_drop hx)
def TextOf (b:List Int) (at_:Int) (s:ByteArray) (x:Int) (ok:Bool):Prop :=
 (ok=false->s=⟨#[]⟩∧x=0∧∀ (a:Nat) (s':ByteArray) r,at_=(a:Int)->b.drop a=textB s' ++ r->s'.size≤1000000000->False) ∧
 (ok=true->∃ a:Nat,at_=(a:Int)∧s.size≤1000000000∧b.drop a=textB s ++ b.drop (a+(textB s).length)∧x=((a+(textB s).length:Nat):Int)∧a+(textB s).length≤b.length)
theorem getText_both (b:List Int) (hb:InB b) (hl:b.length≤1099511627776) (at_:Int) (h0:-9223372036854775808≤at_) (h1:at_≤9223372036854775807):∃ s x ok,Ev (fun q=>spec_GetText.f q b at_) (s,x,ok)∧Ev (fun q=>impl_GetText.f q b at_) (s,x,ok)∧TextOf b at_ s x ok:=by
 obtain ⟨m,x,ok,e1,e2,hN⟩:=getNum_both b hb hl at_ h0 h1
 unfold spec_GetText.f impl_GetText.f
 cases ok with
 | false =>
  obtain ⟨rfl,rfl,h3⟩:=hN.1 rfl
  refine ⟨⟨#[]⟩,0,false,Ev.bind e1 (Ev.neg (by simp) (Ev.now _)),Ev.bind e2 (Ev.neg (by simp) (Ev.now _)),fun _=>⟨rfl,rfl,fun a s' r ha hr hs=>?_⟩,fun h=>by cases h⟩
  unfold textB at hr
  rw [List.append_assoc] at hr
  exact h3 a s'.size _ ha hr hs
 | true =>
  obtain ⟨a,N,rfl,rfl,hN1,hd,rfl,hle⟩:=hN.2 rfl
  have hp:=num_pos N
  obtain ⟨c,hc⟩:∃ c,a+(num N).length=c:=⟨_,rfl⟩
  rw [hc] at e1 e2 hd hle
  clear hN
  by_cases hg:N+c≤b.length
  ·have w1:wrap64 ((b.length:Int) - (c:Int))=(b.length:Int) - (c:Int):=w64 (by omega) (by omega)
   have w2:wrap64 ((c:Int) + (N:Int))=((c+N:Nat):Int):=by
    rw [w64 (by omega) (by omega)]
    omega
   have ht:((c+N:Nat):Int).toNat=c+N:=Int.toNat_natCast _
   have ht2:(c:Int).toNat=c:=Int.toNat_natCast _
   have hrow:(b.take (c+N)).drop c=(b.drop c).take N:=by rw [List.drop_take];congr 1;omega
   have hlen:((b.drop c).take N).length=N:=by rw [List.length_take,List.length_drop];omega
   have hsz:(strOfNums ((b.drop c).take N)).size=N:=by rw [strOfNums_size,hlen]
   have htb:textB (strOfNums ((b.drop c).take N))=num N ++ (b.drop c).take N:=by
    unfold textB
    rw [hsz,bytes_nums _ (inB_take (inB_drop hb c) N)]
   have htl:(textB (strOfNums ((b.drop c).take N))).length=(num N).length+N:=by rw [htb,List.length_append,hlen]
   refine ⟨strOfNums ((b.drop c).take N),((c+N:Nat):Int),true,?_,?_,fun h=>(by cases h),fun _=>⟨a,rfl,by rw [hsz];exact hN1,?_,?_,?_⟩⟩
   ·refine Ev.bind e1 (Ev.pos rfl ?_)
    simp only [w1,w2,ht,ht2,hrow]
    exact Ev.neg (by omega) (Ev.pos (by omega) (Ev.pos (by omega) (Ev.pos (by omega) (Ev.now _))))
   ·refine Ev.bind e2 (Ev.pos rfl ?_)
    simp only [w1,w2,ht,ht2,hrow]
    exact Ev.neg (by omega) (Ev.pos (by omega) (Ev.pos (by omega) (Ev.pos (by omega) (Ev.now _))))
   ·rw [htl,htb,hd,List.append_assoc]
    congr 1
    rw [show a+((num N).length+N)=c+N by omega,← List.drop_drop]
    exact (List.take_append_drop N (b.drop c)).symm
   ·rw [htl]
    congr 1
    omega
   ·rw [htl]
    omega
  ·have w1:wrap64 ((b.length:Int) - (c:Int))=(b.length:Int) - (c:Int):=w64 (by omega) (by omega)
   refine ⟨⟨#[]⟩,0,false,?_,?_,fun _=>⟨rfl,rfl,fun a' s' r ha hr hs=>?_⟩,fun h=>by cases h⟩
   ·refine Ev.bind e1 (Ev.pos rfl ?_)
    simp only [w1]
    exact Ev.pos (by omega) (Ev.now _)
   ·refine Ev.bind e2 (Ev.pos rfl ?_)
    simp only [w1]
    exact Ev.pos (by omega) (Ev.now _)
   ·obtain rfl:a=a':=by omega
    unfold textB at hr
    rw [hd,List.append_assoc] at hr
    obtain ⟨k1,k2⟩:=num_inj _ _ _ _ hr
    have:=congrArg List.length k2
    rw [List.length_append,bytesOf_length,List.length_drop] at this
    omega
def TextsOf (b:List Int) (at_:Int) (t:List ByteArray) (x:Int) (ok:Bool):Prop :=
 (ok=false->t=[]∧x=0∧∀ (a:Nat) (t':List ByteArray) r,at_=(a:Int)->b.drop a=textsB t' ++ r->t'.length≤200->(∀ s ∈ t',s.size≤1000000000)->False) ∧
 (ok=true->∃ a:Nat,at_=(a:Int)∧t.length≤200∧(∀ s ∈ t,s.size≤1000000000)∧b.drop a=textsB t ++ b.drop (a+(textsB t).length)∧x=((a+(textsB t).length:Nat):Int)∧a+(textsB t).length≤b.length)
theorem texts_loop (b:List Int) (hb:InB b) (hl:b.length≤1099511627776) (N:Nat) (hN:N≤200):∀ (d i:Nat),i+d=N->∀ (c:Nat) (acc:List ByteArray),c≤b.length->acc.length=i →
  ∃ t x ok,Ev (fun q=>spec_GetTexts.l0 q b (N:Int) (c:Int) acc (i:Int)) (t,x,ok)∧Ev (fun q=>impl_GetTexts.l0 q b (c:Int) acc (N:Int) (i:Int)) (t,x,ok) ∧
   (ok=false->t=[]∧x=0∧∀ (t':List ByteArray) r,t'.length=d->b.drop c=manyB t' ++ r->(∀ s ∈ t',s.size≤1000000000)->False) ∧
   (ok=true->∃ t':List ByteArray,t=acc ++ t'∧t'.length=d∧(∀ s ∈ t',s.size≤1000000000)∧b.drop c=manyB t' ++ b.drop (c+(manyB t').length)∧x=((c+(manyB t').length:Nat):Int)∧c+(manyB t').length≤b.length):=by
 intro d
 induction d with
 | zero =>
  intro i hi c acc hc ha
  refine ⟨acc,(c:Int),true,?_,?_,fun h=>(by cases h),fun _=>⟨[],by simp,rfl,by simp,by simp [manyB_nil],by simp [manyB_nil],by simp [manyB_nil];omega⟩⟩
  ·refine Ev.step (fun q=>by simp only [spec_GetTexts.l0];rfl) ?_
   exact Ev.neg (by omega) (Ev.now _)
  ·refine Ev.step (fun q=>by simp only [impl_GetTexts.l0];rfl) ?_
   exact Ev.neg (by omega) (Ev.now _)
 | succ d ih =>
  intro i hi c acc hc ha
  obtain ⟨s,x,ok,e1,e2,hT⟩:=getText_both b hb hl (c:Int) (by omega) (by omega)
  have hlt:(i:Int) < (N:Int):=by omega
  have nx:wrap64 ((i:Int) + 1)=((i+1:Nat):Int):=by
   rw [w64 (by omega) (by omega)]
   omega
  cases ok with
  | false =>
   obtain ⟨rfl,rfl,h3⟩:=hT.1 rfl
   refine ⟨[],0,false,?_,?_,fun _=>⟨rfl,rfl,fun t' r ht hr hs=>?_⟩,fun h=>by cases h⟩
   ·refine Ev.step (fun q=>by simp only [spec_GetTexts.l0];rfl) ?_
    exact Ev.pos hlt (Ev.bind e1 (Ev.neg (by simp) (Ev.now _)))
   ·refine Ev.step (fun q=>by simp only [impl_GetTexts.l0];rfl) ?_
    exact Ev.pos hlt (Ev.bind e2 (Ev.neg (by simp) (Ev.now _)))
   ·cases t' with
    | nil=>cases ht
    | cons y t' =>
     rw [manyB_cons,List.append_assoc] at hr
     exact h3 c y _ rfl hr (hs y (List.mem_cons_self ..))
  | true =>
   obtain ⟨c',hcc,hs1,hd,rfl,hle⟩:=hT.2 rfl
   obtain rfl:c=c':=by omega
   obtain ⟨t,x2,ok2,f1,f2,f3,f4⟩:=ih (i+1) (by omega) (c+(textB s).length) (acc ++ [s]) hle (by simp;omega)
   have hal:acc.length < 8796093022208:=by omega
   refine ⟨t,x2,ok2,?_,?_,fun ho=>?_,fun ho=>?_⟩
   ·refine Ev.step (fun q=>by simp only [spec_GetTexts.l0,nx];rfl) ?_
    exact Ev.pos hlt (Ev.bind e1 (Ev.pos rfl (Ev.pos hal f1)))
   ·refine Ev.step (fun q=>by simp only [impl_GetTexts.l0,nx];rfl) ?_
    exact Ev.pos hlt (Ev.bind e2 (Ev.pos rfl (Ev.pos hal f2)))
   ·obtain ⟨g1,g2,g3⟩:=f3 ho
    refine ⟨g1,g2,fun t' r ht hr hs=>?_⟩
    cases t' with
    | nil=>cases ht
    | cons y t' =>
     rw [hd,manyB_cons,List.append_assoc] at hr
     obtain ⟨_,k2⟩:=textB_inj hr
     exact g3 t' r (by simpa using ht) k2 (fun s' hs'=>hs s' (List.mem_cons_of_mem _ hs'))
   ·obtain ⟨t',g1,g2,g3,g4,g5,g6⟩:=f4 ho
    refine ⟨s :: t',by rw [g1];simp,by simp [g2],fun s' hs'=>?_,?_,?_,?_⟩
    ·rcases List.mem_cons.1 hs' with rfl|hs'
     ·exact hs1
     ·exact g3 s' hs'
    ·rw [manyB_cons,List.length_append,List.append_assoc,← Nat.add_assoc]
     rw [hd]
     congr 1
    ·rw [manyB_cons,List.length_append,g5]
     congr 1
     omega
    ·rw [manyB_cons,List.length_append]
     omega
theorem getTexts_both (b:List Int) (hb:InB b) (hl:b.length≤1099511627776) (at_:Int) (h0:-9223372036854775808≤at_) (h1:at_≤9223372036854775807):∃ t x ok,Ev (fun q=>spec_GetTexts.f q b at_) (t,x,ok)∧Ev (fun q=>impl_GetTexts.f q b at_) (t,x,ok)∧TextsOf b at_ t x ok:=by
 obtain ⟨m,x,ok,e1,e2,hN⟩:=getNum_both b hb hl at_ h0 h1
 have sEnd:∀ m x:Int,Ev (fun q=>spec_GetTexts.j0 q b m x true) (([]:List ByteArray),(0:Int),false):=fun m x=>by
  refine Ev.step (fun q=>by simp only [spec_GetTexts.j0];rfl) ?_
  exact Ev.pos trivial (Ev.now _)
 have iEnd:∀ m x:Int,Ev (fun q=>impl_GetTexts.j0 q b m x true) (([]:List ByteArray),(0:Int),false):=fun m x=>by
  refine Ev.step (fun q=>by simp only [impl_GetTexts.j0];rfl) ?_
  exact Ev.pos trivial (Ev.now _)
 unfold spec_GetTexts.f impl_GetTexts.f
 cases ok with
 | false =>
  obtain ⟨rfl,rfl,h3⟩:=hN.1 rfl
  refine ⟨[],0,false,Ev.bind e1 (Ev.neg (by simp) (sEnd _ _)),Ev.bind e2 (Ev.neg (by simp) (iEnd _ _)),fun _=>⟨rfl,rfl,fun a t' r ha hr ht hs=>?_⟩,fun h=>by cases h⟩
  unfold textsB at hr
  rw [List.append_assoc] at hr
  exact h3 a t'.length _ ha hr (by omega)
 | true =>
  obtain ⟨a,N,rfl,rfl,hN1,hd,rfl,hle⟩:=hN.2 rfl
  by_cases hg:(N:Int) > 200
  ·refine ⟨[],0,false,?_,?_,fun _=>⟨rfl,rfl,fun a' t' r ha hr ht hs=>?_⟩,fun h=>by cases h⟩
   ·refine Ev.bind e1 (Ev.pos rfl ?_)
    simp only [decide_eq_true hg]
    exact sEnd _ _
   ·refine Ev.bind e2 (Ev.pos rfl ?_)
    simp only [decide_eq_true hg]
    exact iEnd _ _
   ·obtain rfl:a=a':=by omega
    unfold textsB at hr
    rw [hd,List.append_assoc] at hr
    obtain ⟨k1,k2⟩:=num_inj _ _ _ _ hr
    omega
  ·obtain ⟨t,x2,ok2,f1,f2,f3,f4⟩:=texts_loop b hb hl N (by omega) N 0 (by omega) (a+(num N).length) [] hle rfl
   refine ⟨t,x2,ok2,?_,?_,fun ho=>?_,fun ho=>?_⟩
   ·refine Ev.bind e1 (Ev.pos rfl ?_)
    simp only [decide_eq_false hg]
    refine Ev.step (fun q=>by simp only [spec_GetTexts.j0];rfl) ?_
    exact Ev.neg (by simp) f1
   ·refine Ev.bind e2 (Ev.pos rfl ?_)
    simp only [decide_eq_false hg]
    refine Ev.step (fun q=>by simp only [impl_GetTexts.j0];rfl) ?_
    exact Ev.neg (by simp) f2
   ·obtain ⟨g1,g2,g3⟩:=f3 ho
    refine ⟨g1,g2,fun a' t' r ha hr ht hs=>?_⟩
    obtain rfl:a=a':=by omega
    unfold textsB at hr
    rw [hd,List.append_assoc] at hr
    obtain ⟨k1,k2⟩:=num_inj _ _ _ _ hr
    exact g3 t' r k1.symm k2 hs
   ·obtain ⟨t',g1,g2,g3,g4,g5,g6⟩:=f4 ho
    rw [List.nil_append] at g1
    subst g1
    have hb2:textsB t=num N ++ manyB t:=by
     unfold textsB
     rw [g2]
    refine ⟨a,rfl,by omega,g3,?_,?_,?_⟩
    ·rw [hb2,List.length_append,List.append_assoc,← Nat.add_assoc]
     rw [hd]
     congr 1
    ·rw [hb2,List.length_append,g5]
     congr 1
     omega
    ·rw [hb2,List.length_append]
     omega
def headOk (n:Int) (s:ByteArray):Bool:=if 0≤n∧n≤200 then ((s.size:Int) == 32) else false
theorem spec_HeadOk_eq (n:Int) (s:ByteArray):spec_HeadOk.f n s=some (headOk n s):=by
 unfold spec_HeadOk.f headOk
 rw [spec_in_eq]
 simp only [Option.bind_some]
 by_cases h:0≤n∧n≤200
 ·rw [decide_eq_true h,if_pos h]
  rfl
 ·rw [decide_eq_false h,if_neg h]
  rfl
theorem impl_HeadOk_eq (n:Int) (s:ByteArray):impl_HeadOk.f n s=some (headOk n s):=by
 unfold impl_HeadOk.f headOk
 rw [impl_in_eq]
 simp only [Option.bind_some]
 by_cases h:0≤n∧n≤200
 ·rw [decide_eq_true h,if_pos h]
  rfl
 ·rw [decide_eq_false h,if_neg h]
  rfl
theorem headOk_parts {n:Int} {s:ByteArray} (h:headOk n s=true):0≤n∧n≤200∧s.size=32:=by
 unfold headOk at h
 by_cases hn:0≤n∧n≤200
 ·rw [if_pos hn] at h
  have:=beq_iff_eq.1 h
  omega
 ·rw [if_neg hn] at h
  cases h
theorem nums_eq {l m:List Int} (hl:InB l) (hm:InB m):((strOfNums l).toList == (strOfNums m).toList)=decide (l=m):=by
 by_cases h:l=m
 ·rw [decide_eq_true h,h]
  simp
 ·rw [decide_eq_false h,beq_eq_false_iff_ne]
  intro e
  apply h
  have e2:strOfNums l=strOfNums m:=bytes_ext e
  rw [← bytes_nums l hl,← bytes_nums m hm,e2]
theorem gtext_bad (b:List Int) (hb:InB b) (hl:b.length≤1099511627776) (at_:Int) (h0:-9223372036854775808≤at_) (h1:at_≤9223372036854775807):Ev (fun q=>impl_getter_text.f q b at_ true) ((⟨#[]⟩:ByteArray),at_,true):=by
 obtain ⟨m,x,ok,e1,e2,hN⟩:=getText_both b hb hl at_ h0 h1
 unfold impl_getter_text.f
 exact Ev.bind e2 (Ev.pos rfl (Ev.now _))
theorem gtexts_bad (b:List Int) (hb:InB b) (hl:b.length≤1099511627776) (at_:Int) (h0:-9223372036854775808≤at_) (h1:at_≤9223372036854775807):Ev (fun q=>impl_getter_texts.f q b at_ true) (([]:List ByteArray),at_,true):=by
 obtain ⟨m,x,ok,e1,e2,hN⟩:=getTexts_both b hb hl at_ h0 h1
 unfold impl_getter_texts.f
 exact Ev.bind e2 (Ev.pos rfl (Ev.now _))
theorem gnum_go {b:List Int} {at_ m x:Int} {ok:Bool} (h:Ev (fun q=>impl_GetNum.f q b at_) (m,x,ok)):Ev (fun q=>impl_getter_num.f q b at_ false) (if ok=true then (m,x,false) else (0,at_,true)):=by
 unfold impl_getter_num.f
 refine Ev.bind h (Ev.neg (by simp) ?_)
 cases ok with
 | true=>exact Ev.pos rfl (Ev.now _)
 | false=>exact Ev.neg (by simp) (Ev.now _)
theorem gtext_go {b:List Int} {at_ x:Int} {s:ByteArray} {ok:Bool} (h:Ev (fun q=>impl_GetText.f q b at_) (s,x,ok)):Ev (fun q=>impl_getter_text.f q b at_ false) (if ok=true then (s,x,false) else ((⟨#[]⟩:ByteArray),at_,true)):=by
 unfold impl_getter_text.f
 refine Ev.bind h (Ev.neg (by simp) ?_)
 cases ok with
 | true=>exact Ev.pos rfl (Ev.now _)
 | false=>exact Ev.neg (by simp) (Ev.now _)
theorem gtexts_go {b:List Int} {at_ x:Int} {t:List ByteArray} {ok:Bool} (h:Ev (fun q=>impl_GetTexts.f q b at_) (t,x,ok)):Ev (fun q=>impl_getter_texts.f q b at_ false) (if ok=true then (t,x,false) else (([]:List ByteArray),at_,true)):=by
 unfold impl_getter_texts.f
 refine Ev.bind h (Ev.neg (by simp) ?_)
 cases ok with
 | true=>exact Ev.pos rfl (Ev.now _)
 | false=>exact Ev.neg (by simp) (Ev.now _)
theorem manyB_inB (t:List ByteArray):InB (manyB t):=by
 induction t with
 | nil=>exact inB_nil
 | cons s t ih =>
  rw [manyB_cons]
  exact inB_app (textB_inB s) ih
theorem textsB_inB (t:List ByteArray):InB (textsB t):=inB_app (num_inB _) (manyB_inB t)
theorem manyB_ge (t:List ByteArray):total t+t.length≤((manyB t).length:Int):=by
 induction t with
 | nil=>simp [manyB_nil,total]
 | cons s t ih =>
  have:=num_pos s.size
  rw [manyB_cons,List.length_append,textB_length,total_cons,List.length_cons]
  omega
theorem num_step (b:List Int) (hb:InB b) (hl:b.length≤1099511627776) (a:Nat) (ha:a≤b.length) :
  (Ev (fun q=>spec_GetNum.f q b (a:Int)) (0,0,false)∧Ev (fun q=>impl_getter_num.f q b (a:Int) false) (0,(a:Int),true)∧∀ (n:Nat) r,b.drop a=num n ++ r->n≤1000000000->False) ∨
  (∃ n p:Nat,n≤1000000000∧p≤b.length∧b.drop a=num n ++ b.drop p∧p=a+(num n).length∧Ev (fun q=>spec_GetNum.f q b (a:Int)) ((n:Int),(p:Int),true)∧Ev (fun q=>impl_getter_num.f q b (a:Int) false) ((n:Int),(p:Int),false)):=by
 obtain ⟨m,x,ok,e1,e2,hN⟩:=getNum_both b hb hl (a:Int) (by omega) (by omega)
 have g:=gnum_go e2
 cases ok with
 | false =>
  rw [if_neg (by simp)] at g
  obtain ⟨rfl,rfl,h3⟩:=hN.1 rfl
  exact .inl ⟨e1,g,fun n r h1 h2=>h3 a n r rfl h1 h2⟩
 | true =>
  rw [if_pos rfl] at g
  obtain ⟨a',n,ha',rfl,h1,h2,rfl,h4⟩:=hN.2 rfl
  obtain rfl:a=a':=by omega
  exact .inr ⟨n,_,h1,h4,h2,rfl,e1,g⟩
theorem text_step (b:List Int) (hb:InB b) (hl:b.length≤1099511627776) (a:Nat) (ha:a≤b.length) :
  (Ev (fun q=>spec_GetText.f q b (a:Int)) ((⟨#[]⟩:ByteArray),0,false)∧Ev (fun q=>impl_getter_text.f q b (a:Int) false) ((⟨#[]⟩:ByteArray),(a:Int),true)∧∀ (s:ByteArray) r,b.drop a=textB s ++ r->s.size≤1000000000->False) ∨
  (∃ (s:ByteArray) (p:Nat),s.size≤1000000000∧p≤b.length∧b.drop a=textB s ++ b.drop p∧p=a+(textB s).length∧Ev (fun q=>spec_GetText.f q b (a:Int)) (s,(p:Int),true)∧Ev (fun q=>impl_getter_text.f q b (a:Int) false) (s,(p:Int),false)):=by
 obtain ⟨m,x,ok,e1,e2,hN⟩:=getText_both b hb hl (a:Int) (by omega) (by omega)
 have g:=gtext_go e2
 cases ok with
 | false =>
  rw [if_neg (by simp)] at g
  obtain ⟨rfl,rfl,h3⟩:=hN.1 rfl
  exact .inl ⟨e1,g,fun n r h1 h2=>h3 a n r rfl h1 h2⟩
 | true =>
  rw [if_pos rfl] at g
  obtain ⟨a',ha',h1,h2,rfl,h4⟩:=hN.2 rfl
  obtain rfl:a=a':=by omega
  exact .inr ⟨m,_,h1,h4,h2,rfl,e1,g⟩
theorem texts_step (b:List Int) (hb:InB b) (hl:b.length≤1099511627776) (a:Nat) (ha:a≤b.length) :
  (Ev (fun q=>spec_GetTexts.f q b (a:Int)) (([]:List ByteArray),0,false)∧Ev (fun q=>impl_getter_texts.f q b (a:Int) false) (([]:List ByteArray),(a:Int),true)∧∀ (t:List ByteArray) r,b.drop a=textsB t ++ r->t.length≤200->(∀ s ∈ t,s.size≤1000000000)->False) ∨
  (∃ (t:List ByteArray) (p:Nat),t.length≤200∧(∀ s ∈ t,s.size≤1000000000)∧p≤b.length∧b.drop a=textsB t ++ b.drop p∧p=a+(textsB t).length∧Ev (fun q=>spec_GetTexts.f q b (a:Int)) (t,(p:Int),true)∧Ev (fun q=>impl_getter_texts.f q b (a:Int) false) (t,(p:Int),false)):=by
 obtain ⟨m,x,ok,e1,e2,hN⟩:=getTexts_both b hb hl (a:Int) (by omega) (by omega)
 have g:=gtexts_go e2
 cases ok with
 | false =>
  rw [if_neg (by simp)] at g
  obtain ⟨rfl,rfl,h3⟩:=hN.1 rfl
  exact .inl ⟨e1,g,fun n r h1 h2 h5=>h3 a n r rfl h1 h2 h5⟩
 | true =>
  rw [if_pos rfl] at g
  obtain ⟨a',ha',h1,h5,h2,rfl,h4⟩:=hN.2 rfl
  obtain rfl:a=a':=by omega
  exact .inr ⟨m,_,h1,h5,h4,h2,rfl,e1,g⟩
theorem text_any (b:List Int) (hb:InB b) (hl:b.length≤1099511627776) (x:Int) (h:0≤x∧x≤b.length):∃ m y ok,Ev (fun q=>spec_GetText.f q b x) (m,y,ok)∧0≤y∧y≤b.length:=by
 obtain ⟨a,rfl⟩:=Int.eq_ofNat_of_zero_le h.1
 rcases text_step b hb hl a (by omega) with ⟨e,_⟩|⟨n,p,_,h2,_,_,e,_⟩
 ·exact ⟨_,_,_,e,by omega,by omega⟩
 ·exact ⟨_,_,_,e,by omega,by omega⟩
theorem texts_any (b:List Int) (hb:InB b) (hl:b.length≤1099511627776) (x:Int) (h:0≤x∧x≤b.length):∃ m y ok,Ev (fun q=>spec_GetTexts.f q b x) (m,y,ok)∧0≤y∧y≤b.length:=by
 obtain ⟨a,rfl⟩:=Int.eq_ofNat_of_zero_le h.1
 rcases texts_step b hb hl a (by omega) with ⟨e,_⟩|⟨n,p,_,_,h2,_,_,e,_⟩
 ·exact ⟨_,_,_,e,by omega,by omega⟩
 ·exact ⟨_,_,_,e,by omega,by omega⟩
def bodyB (n:Nat) (s:ByteArray) (t:List ByteArray):List Int:=num n ++ (textB s ++ textsB t)
def sumB (l:List Int):List Int:=bytesOf ((sha l).extract 0 4)
def commitB (n:Nat) (s:ByteArray) (t:List ByteArray):List Int:=num (bodyB n s t).length ++ (bodyB n s t ++ sumB (bodyB n s t))
theorem sumB_length (l:List Int):(sumB l).length=4:=by
 unfold sumB
 rw [bytesOf_length,ByteArray.size_extract,sha_size]
 rfl
theorem bodyB_inB (n:Nat) (s:ByteArray) (t:List ByteArray):InB (bodyB n s t):=inB_app (num_inB _) (inB_app (textB_inB _) (textsB_inB _))
theorem sumB_inB (l:List Int):InB (sumB l):=inB_text _
theorem commitB_inB (n:Nat) (s:ByteArray) (t:List ByteArray):InB (commitB n s t):=inB_app (num_inB _) (inB_app (bodyB_inB _ _ _) (sumB_inB _))
theorem bodyB_ge (n:Nat) (s:ByteArray) (t:List ByteArray):total t+t.length+s.size≤((bodyB n s t).length:Int):=by
 have h:=manyB_ge t
 unfold bodyB textsB
 rw [List.length_append,List.length_append,List.length_append,textB_length]
 omega
theorem bodyB_inj {n m:Nat} {s u:ByteArray} {t v:List ByteArray} {r q:List Int} (h:bodyB n s t ++ r=bodyB m u v ++ q):n=m∧s=u∧t=v∧r=q:=by
 unfold bodyB at h
 simp only [List.append_assoc] at h
 obtain ⟨h1,h⟩:=num_inj _ _ _ _ h
 obtain ⟨h2,h⟩:=textB_inj h
 obtain ⟨h3,h⟩:=textsB_inj h
 exact ⟨h1,h2,h3,h⟩
theorem commitB_inj {n m:Nat} {s u:ByteArray} {t v:List ByteArray} {r q:List Int} (h:commitB n s t ++ r=commitB m u v ++ q):n=m∧s=u∧t=v∧r=q:=by
 unfold commitB at h
 simp only [List.append_assoc] at h
 obtain ⟨h1,h⟩:=num_inj _ _ _ _ h
 obtain ⟨h2,h3⟩:=List.append_inj h h1
 obtain ⟨a,b,c,_⟩:=bodyB_inj (show bodyB n s t ++ []=bodyB m u v ++ [] by rw [h2])
 subst a b c
 obtain ⟨_,h4⟩:=List.append_inj h3 rfl
 exact ⟨rfl,rfl,rfl,h4⟩
theorem putCommit_val (n:Nat) (s:ByteArray) (t:List ByteArray) (hn:n≤200) (hs:s.size≤1000) (ht:t.length≤1000000) (htt:total t≤100000000) (hx:∀ x ∈ t,x.size≤1000000000):Ev (fun q=>impl_putCommit.f q (n:Int) s t) (commitB n s t):=by
 have ht0:=total_nonneg t
 have a2:=(putNum_val [] n (by omega) (by simp)).2
 have h5:=num_five (show n≤1000000000 by omega)
 have hs5:=num_five (show s.size≤1000000000 by omega)
 have b2:=(putText_val ([] ++ num n) s (by omega) (by simp;omega)).2
 have c2:=(putTexts_val ([] ++ num n ++ textB s) t (by rw [List.length_append,textB_length];simp;omega) (by omega) hx).2
 have eb:[] ++ num n ++ textB s ++ textsB t=bodyB n s t:=by
  unfold bodyB
  simp
 rw [eb] at c2
 have hm:=manyB_length t hx
 have ht5:=num_five (show t.length≤1000000000 by omega)
 have hbl:(bodyB n s t).length≤1000000000:=by
  unfold bodyB textsB
  rw [List.length_append,List.length_append,List.length_append,textB_length]
  omega
 have h4:((sha (bodyB n s t)).extract 0 4).size=4:=by
  rw [ByteArray.size_extract,sha_size]
  rfl
 have h32:(sha (bodyB n s t)).size=32:=sha_size _
 have d2:=(putNum_val [] (bodyB n s t).length hbl (by simp)).2
 have hd5:=num_five hbl
 rw [List.nil_append] at d2
 unfold impl_putCommit.f commitB sumB
 refine Ev.bind a2 (Ev.bind b2 (Ev.bind c2 (Ev.bind d2 (Ev.pos (by omega) (Ev.bind (Ev.now _) (Ev.bind (Ev.const (impl_Digest_is (bodyB n s t) (by omega))) ?_))))))
 rw [← List.append_assoc]
 exact Ev.pos (by omega) (Ev.pos (by omega) (Ev.pos (by rw [List.length_append,h4];omega) (Ev.now _)))
theorem PutCommit_val (n:Int) (s:ByteArray) (t:List ByteArray) (htt:total t≤100000000) (ht:t.length≤1000000) (hx:∀ x ∈ t,x.size≤1000000000):Ev (fun q=>impl_PutCommit.f q n s t) (if headOk n s=true∧1≤t.length∧t.length≤200 then commitB n.toNat s t else []):=by
 unfold impl_PutCommit.f
 by_cases h:headOk n s=true
 ·obtain ⟨h1,h2,h3⟩:=headOk_parts h
  refine Ev.bind (Ev.const (impl_HeadOk_eq n s)) (Ev.pos h ?_)
  by_cases hl:1≤(t.length:Int)∧(t.length:Int)≤200
  ·rw [if_pos ⟨h,by omega,by omega⟩]
   have hv:=putCommit_val n.toNat s t (by omega) (by omega) ht htt hx
   rw [show ((n.toNat:Nat):Int)=n by omega] at hv
   exact Ev.bind (Ev.const (impl_in_eq _ _ _)) (Ev.pos (decide_eq_true hl) (Ev.bind hv (Ev.now _)))
  ·rw [if_neg (fun q=>hl ⟨by omega,by omega⟩)]
   exact Ev.bind (Ev.const (impl_in_eq _ _ _)) (Ev.neg (by rw [decide_eq_false hl];simp) (Ev.now _))
 ·rw [if_neg (fun q=>h q.1)]
  exact Ev.bind (Ev.const (impl_HeadOk_eq n s)) (Ev.neg h (Ev.now _))
theorem commitB_length (n:Nat) (s:ByteArray) (t:List ByteArray):(commitB n s t).length=(num (bodyB n s t).length).length+(bodyB n s t).length+4:=by
 unfold commitB
 rw [List.length_append,List.length_append,sumB_length]
 omega
def CommitOf (b:List Int) (at_ n:Int) (s:ByteArray) (t:List ByteArray) (nx:Int) (ok:Bool):Prop :=
 (ok=true->∃ a N:Nat,at_=(a:Int)∧n=(N:Int)∧headOk n s=true∧1≤t.length∧b.drop a=commitB N s t ++ b.drop (a+(commitB N s t).length)∧nx=((a+(commitB N s t).length:Nat):Int)∧a+(commitB N s t).length≤b.length) ∧
 (ok=false->n=0∧s=⟨#[]⟩∧t=[]∧nx=at_∧∀ (a N:Nat) (s':ByteArray) (t':List ByteArray) r,at_=(a:Int)->b.drop a=commitB N s' t' ++ r->headOk (N:Int) s'=true->1≤t'.length->t'.length≤200->(∀ x ∈ t',x.size≤1000000000)->False)
set_option maxHeartbeats 1000000 in
theorem getCommitI (b:List Int) (hb:InB b) (hl:b.length≤10000000) (at_:Int) (h0:-9223372036854775808≤at_) (h1:at_≤9223372036854775807) :
  ∃ n s t nx ok,Ev (fun q=>impl_GetCommit.f q b at_) (n,s,t,nx,ok)∧t.length≤200∧CommitOf b at_ n s t nx ok:=by
 obtain ⟨m,x,ok,_,e2,hN⟩:=getNum_both b hb (by omega) at_ h0 h1
 have jT:∀ m x:Int,Ev (fun q=>impl_GetCommit.j0 q b at_ m x true) (0,(⟨#[]⟩:ByteArray),([]:List ByteArray),at_,false):=fun m x=>by
  refine Ev.step (fun q=>by simp only [impl_GetCommit.j0];rfl) ?_
  exact Ev.pos trivial (Ev.now _)
 have bad:∀ P:Prop,(∀ (a N:Nat) (s':ByteArray) (t':List ByteArray) r,at_=(a:Int)->b.drop a=commitB N s' t' ++ r->headOk (N:Int) s'=true->1≤t'.length->t'.length≤200->(∀ x ∈ t',x.size≤1000000000)->False)->CommitOf b at_ 0 ⟨#[]⟩ [] at_ false:=fun _ h=>⟨fun q=>(by cases q),fun _=>⟨rfl,rfl,rfl,rfl,h⟩⟩
 unfold impl_GetCommit.f
 cases ok with
 | false =>
  obtain ⟨rfl,rfl,h3⟩:=hN.1 rfl
  refine ⟨0,⟨#[]⟩,[],at_,false,Ev.bind e2 (Ev.neg (by simp) (jT _ _)),by simp,bad True fun a N s' t' r ha hr _ _ _ _=>?_⟩
  unfold commitB at hr
  rw [List.append_assoc] at hr
  refine h3 a _ _ ha hr ?_
  have:=congrArg List.length hr
  simp only [List.length_append,List.length_drop] at this
  omega
 | true =>
  obtain ⟨a,m,rfl,rfl,hm,hd,rfl,hle⟩:=hN.2 rfl
  have hp1:=num_pos m
  obtain ⟨p,hp⟩:∃ p,a+(num m).length=p:=⟨_,rfl⟩
  rw [hp] at e2 hd hle
  clear hN
  have cut:∀ (N:Nat) (s':ByteArray) (t':List ByteArray) r,b.drop a=commitB N s' t' ++ r->m=(bodyB N s' t').length∧b.drop p=bodyB N s' t' ++ (sumB (bodyB N s' t') ++ r):=fun N s' t' r hr=>by
   unfold commitB at hr
   rw [hd,List.append_assoc,List.append_assoc] at hr
   exact num_inj _ _ _ _ hr
  have w1:wrap64 ((b.length:Int) - (p:Int))=(b.length:Int) - (p:Int):=w64 (by omega) (by omega)
  have w2:wrap64 ((b.length:Int) - (p:Int) - 4)=(b.length:Int) - (p:Int) - 4:=w64 (by omega) (by omega)
  by_cases hg:(m:Int) > (b.length:Int) - (p:Int) - 4
  ·refine ⟨0,⟨#[]⟩,[],(a:Int),false,?_,by simp,bad True fun a' N s' t' r ha hr _ _ _ _=>?_⟩
   ·refine Ev.bind e2 (Ev.pos rfl ?_)
    simp only [w1,w2,decide_eq_true hg]
    exact jT _ _
   ·obtain rfl:a=a':=by omega
    obtain ⟨k1,k2⟩:=cut N s' t' r hr
    have:=congrArg List.length k2
    simp only [List.length_append,List.length_drop,sumB_length] at this
    omega
  ·have w3 : wrap64 ((p:Int) + (m:Int))=((p+m:Nat):Int):=by
    rw [w64 (by omega) (by omega)]
    omega
   have w4:wrap64 (((p+m:Nat):Int) + 4)=((p+m+4:Nat):Int):=by
    rw [w64 (by omega) (by omega)]
    omega
   have t1:((p+m:Nat):Int).toNat=p+m:=Int.toNat_natCast _
   have t2:(p:Int).toNat=p:=Int.toNat_natCast _
   have t3:((p+m+4:Nat):Int).toNat=p+m+4:=Int.toNat_natCast _
   have t4:(a:Int).toNat=a:=Int.toNat_natCast _
   obtain ⟨B,hB⟩:∃ B,(b.take (p+m)).drop p=B:=⟨_,rfl⟩
   have hB2:B=(b.drop p).take m:=by
    rw [← hB,List.drop_take]
    congr 1
    omega
   have hBl:B.length=m:=by
    rw [hB2,List.length_take,List.length_drop]
    omega
   have hBb:InB B:=by
    rw [hB2]
    exact inB_take (inB_drop hb p) m
   have cutB:∀ (N:Nat) (s':ByteArray) (t':List ByteArray) r,b.drop a=commitB N s' t' ++ r->B=bodyB N s' t':=fun N s' t' r hr=>by
    obtain ⟨k1,k2⟩:=cut N s' t' r hr
    rw [hB2,k2,k1,List.take_left]
   obtain ⟨E,hE⟩:∃ E,(b.take (p+m+4)).drop a=E:=⟨_,rfl⟩
   have start:∀ r,Ev (fun q=>(impl_getter_num.f q B 0 false).bind fun bt7=>((impl_getter_text.f q B bt7.2.1 bt7.2.2).bind fun bt11=>((impl_getter_texts.f q B bt11.2.1 bt11.2.2).bind fun bt14=>(if bt14.2.2=true then (some (0,(⟨#[]⟩:ByteArray),([]:List ByteArray),(a:Int),false)) else ((impl_PutCommit.f q bt7.1 bt11.1 bt14.1).bind fun t19=>((bytes_Equal.f t19 E).bind fun t23=>(if t23=true then (some (bt7.1,bt11.1,bt14.1,((p+m+4:Nat):Int),true)) else (some (0,(⟨#[]⟩:ByteArray),([]:List ByteArray),(a:Int),false))))))))) r->Ev (fun q=>(impl_GetNum.f q b (a:Int)).bind fun bt2=>(if bt2.2.2=true then (impl_GetCommit.j0 q b (a:Int) bt2.1 bt2.2.1 (decide (bt2.1 > (wrap64 ((wrap64 ((b.length:Int) - bt2.2.1)) - 4))))) else (impl_GetCommit.j0 q b (a:Int) bt2.1 bt2.2.1 true))) r:=fun r hr=>by
    refine Ev.bind e2 (Ev.pos rfl ?_)
    simp only [w1,w2,decide_eq_false hg]
    refine Ev.step (fun q=>by simp only [impl_GetCommit.j0,w3,w4,t1,t2,t3,t4,hB,hE];rfl) ?_
    refine Ev.neg (by simp) (Ev.pos (by omega) (Ev.pos (by omega) (Ev.pos (by omega) ?_)))
    have i1:(0:Int)≤(a:Int):=by omega
    have i2:(a:Int)≤((p+m+4:Nat):Int):=by omega
    have i3:((p+m+4:Nat):Int)≤(b.length:Int):=by omega
    simp only [if_pos i1,if_pos i2,if_pos i3]
    exact hr
   rcases num_step B hBb (by omega) 0 (by omega) with ⟨_,g0,z0⟩|⟨v0,p1,q0,l0,y0,r0,_,g0⟩
   ·refine ⟨0,⟨#[]⟩,[],(a:Int),false,start _ (Ev.bind g0 (Ev.bind (gtext_bad B hBb (by omega) 0 (by omega) (by omega)) (Ev.bind (gtexts_bad B hBb (by omega) 0 (by omega) (by omega)) (Ev.pos rfl (Ev.now _))))),by simp,bad True fun a' N s' t' r ha hr hk c1 c2 c3=>?_⟩
    obtain rfl:a=a':=by omega
    have hh:=headOk_parts hk
    exact z0 N _ (show B.drop 0=num N ++ (textB s' ++ textsB t') from cutB N s' t' r hr) (by omega)
   ·rcases text_step B hBb (by omega) p1 (by omega) with ⟨_,g1,z1⟩|⟨v1,p2,q1,l1,y1,r1,_,g1⟩
    ·refine ⟨0,⟨#[]⟩,[],(a:Int),false,start _ (Ev.bind g0 (Ev.bind g1 (Ev.bind (gtexts_bad B hBb (by omega) (p1:Int) (by omega) (by omega)) (Ev.pos rfl (Ev.now _))))),by simp,bad True fun a' N s' t' r ha hr hk c1 c2 c3=>?_⟩
     obtain rfl:a=a':=by omega
     have hh:=headOk_parts hk
     have d0:B.drop 0=num N ++ (textB s' ++ textsB t'):=cutB N s' t' r hr
     have d1:=(num_inj _ _ _ _ (y0.symm.trans d0)).2
     exact z1 s' _ d1 (by omega)
    ·rcases texts_step B hBb (by omega) p2 (by omega) with ⟨_,g2,z2⟩|⟨v2,p3,q2,s2,l2,y2,r2,_,g2⟩
     ·refine ⟨0,⟨#[]⟩,[],(a:Int),false,start _ (Ev.bind g0 (Ev.bind g1 (Ev.bind g2 (Ev.pos rfl (Ev.now _))))),by simp,bad True fun a' N s' t' r ha hr hk c1 c2 c3=>?_⟩
      obtain rfl:a=a':=by omega
      have d0:B.drop 0=num N ++ (textB s' ++ textsB t'):=cutB N s' t' r hr
      have d1:=(num_inj _ _ _ _ (y0.symm.trans d0)).2
      have d2:=(textB_inj (y1.symm.trans d1)).2
      exact z2 t' [] (by rw [List.append_nil];exact d2) c2 c3
     ·have hBB:B=bodyB v0 v1 v2 ++ B.drop p3:=by
       have e:B.drop 0=num v0 ++ (textB v1 ++ (textsB v2 ++ B.drop p3)):=by rw [y0,y1,y2]
       unfold bodyB
       simp only [List.append_assoc]
       exact e
      have hge:=bodyB_ge v0 v1 v2
      have hBBl:(bodyB v0 v1 v2).length≤m:=by
       have:=congrArg List.length hBB
       rw [List.length_append] at this
       omega
      have ht0:=total_nonneg v2
      have hP:=PutCommit_val (v0:Int) v1 v2 (by omega) (by omega) s2
      rw [Int.toNat_natCast] at hP
      have hEb:InB E:=by
       rw [← hE]
       exact inB_drop (inB_take hb _) _
      have hEl:E.length=(num m).length+m+4:=by
       rw [← hE,List.length_drop,List.length_take]
       omega
      have hEd:b.drop a=E ++ b.drop (p+m+4):=by
       have e3:b.drop a=(b.drop a).take (p+m+4 - a) ++ (b.drop a).drop (p+m+4 - a):=(List.take_append_drop _ _).symm
       rw [List.drop_drop,← List.drop_take,show a+(p+m+4 - a)=p+m+4 by omega,hE] at e3
       exact e3
      obtain ⟨W,hW⟩:∃ W,(if headOk (v0:Int) v1=true∧1≤v2.length∧v2.length≤200 then commitB v0 v1 v2 else [])=W:=⟨_,rfl⟩
      rw [hW] at hP
      have hWb:InB W:=by
       rw [← hW]
       split
       ·exact commitB_inB _ _ _
       ·exact inB_nil
      have hQ:bytes_Equal.f W E=some (decide (W=E)):=by
       unfold bytes_Equal.f
       rw [nums_eq hWb hEb]
      by_cases he:W=E
      ·have hc:headOk (v0:Int) v1=true∧1≤v2.length∧v2.length≤200:=Classical.byContradiction fun hn=>by
        rw [if_neg hn] at hW
        rw [← hW] at he
        have:=congrArg List.length he
        rw [hEl] at this
        simp only [List.length_nil] at this
        omega
       rw [if_pos hc] at hW
       have hlen:(commitB v0 v1 v2).length=(num m).length+m+4:=by rw [hW,he,hEl]
       refine ⟨(v0:Int),v1,v2,((p+m+4:Nat):Int),true,start _ (Ev.bind g0 (Ev.bind g1 (Ev.bind g2 (Ev.neg (by simp) (Ev.bind hP (Ev.bind (Ev.const hQ) (Ev.pos (decide_eq_true he) (Ev.now _)))))))),q2,fun _=>⟨a,v0,rfl,rfl,hc.1,hc.2.1,?_,?_,?_⟩,fun h=>(by cases h)⟩
       ·rw [hlen,hW,he,show a+((num m).length+m+4)=p+m+4 by omega]
        exact hEd
       ·rw [hlen]
        congr 1
        omega
       ·rw [hlen]
        omega
      ·refine ⟨0,⟨#[]⟩,[],(a:Int),false,start _ (Ev.bind g0 (Ev.bind g1 (Ev.bind g2 (Ev.neg (by simp) (Ev.bind hP (Ev.bind (Ev.const hQ) (Ev.neg (by rw [decide_eq_false he];simp) (Ev.now _)))))))),by simp,bad True fun a' N s' t' r ha hr hk c1 c2 c3=>?_⟩
       obtain rfl:a=a':=by omega
       have hb2:=cutB N s' t' r hr
       obtain ⟨k1,k2⟩:=cut N s' t' r hr
       obtain ⟨rfl,rfl,rfl,_⟩:=bodyB_inj (show bodyB v0 v1 v2 ++ B.drop p3=bodyB N s' t' ++ [] by rw [List.append_nil,← hBB,hb2])
       rw [if_pos ⟨hk,c1,c2⟩] at hW
       apply he
       rw [← hW]
       have hcl:=commitB_length v0 v1 v2
       rw [← k1] at hcl
       exact (List.append_inj (hr.symm.trans hEd) (by rw [hcl,hEl])).1
theorem nums_bytes (s:ByteArray):strOfNums (bytesOf s)=s:=bytesOf_inj (bytes_nums _ (inB_text s))
theorem sum_iff {G:List Int} (hG:InB G) (B:List Int):(strOfNums G).toList=((sha B).extract 0 4).toList ↔ G=sumB B:=by
 unfold sumB
 constructor
 ·intro h
  rw [← bytes_nums G hG,bytes_ext h]
 ·intro h
  rw [h,nums_bytes]
set_option maxHeartbeats 1000000 in
theorem getCommitS (b:List Int) (hb:InB b) (hl:b.length≤10000000) (at_:Int) (h0:-9223372036854775808≤at_) (h1:at_≤9223372036854775807) :
  ∃ n s t nx ok,Ev (fun q=>spec_GetCommit.f q b at_) (n,s,t,nx,ok)∧t.length≤200∧CommitOf b at_ n s t nx ok:=by
 obtain ⟨m,x,ok,e2,_,hN⟩:=getNum_both b hb (by omega) at_ h0 h1
 have jT:∀ m x:Int,Ev (fun q=>spec_GetCommit.j0 q b at_ m x true) (0,(⟨#[]⟩:ByteArray),([]:List ByteArray),at_,false):=fun m x=>by
  refine Ev.step (fun q=>by simp only [spec_GetCommit.j0];rfl) ?_
  exact Ev.pos trivial (Ev.now _)
 have bad:∀ P:Prop,(∀ (a N:Nat) (s':ByteArray) (t':List ByteArray) r,at_=(a:Int)->b.drop a=commitB N s' t' ++ r->headOk (N:Int) s'=true->1≤t'.length->t'.length≤200->(∀ x ∈ t',x.size≤1000000000)->False)->CommitOf b at_ 0 ⟨#[]⟩ [] at_ false:=fun _ h=>⟨fun q=>(by cases q),fun _=>⟨rfl,rfl,rfl,rfl,h⟩⟩
 unfold spec_GetCommit.f
 cases ok with
 | false =>
  obtain ⟨rfl,rfl,h3⟩:=hN.1 rfl
  refine ⟨0,⟨#[]⟩,[],at_,false,Ev.bind e2 (Ev.neg (by simp) (jT _ _)),by simp,bad True fun a N s' t' r ha hr _ _ _ _=>?_⟩
  unfold commitB at hr
  rw [List.append_assoc] at hr
  refine h3 a _ _ ha hr ?_
  have:=congrArg List.length hr
  simp only [List.length_append,List.length_drop] at this
  omega
 | true =>
  obtain ⟨a,m,rfl,rfl,hm,hd,rfl,hle⟩:=hN.2 rfl
  have hp1:=num_pos m
  obtain ⟨p,hp⟩:∃ p,a+(num m).length=p:=⟨_,rfl⟩
  rw [hp] at e2 hd hle
  clear hN
  have cut:∀ (N:Nat) (s':ByteArray) (t':List ByteArray) r,b.drop a=commitB N s' t' ++ r->m=(bodyB N s' t').length∧b.drop p=bodyB N s' t' ++ (sumB (bodyB N s' t') ++ r):=fun N s' t' r hr=>by
   unfold commitB at hr
   rw [hd,List.append_assoc,List.append_assoc] at hr
   exact num_inj _ _ _ _ hr
  have w1:wrap64 ((b.length:Int) - (p:Int))=(b.length:Int) - (p:Int):=w64 (by omega) (by omega)
  have w2:wrap64 ((b.length:Int) - (p:Int) - 4)=(b.length:Int) - (p:Int) - 4:=w64 (by omega) (by omega)
  by_cases hg:(m:Int) > (b.length:Int) - (p:Int) - 4
  ·refine ⟨0,⟨#[]⟩,[],(a:Int),false,?_,by simp,bad True fun a' N s' t' r ha hr _ _ _ _=>?_⟩
   ·refine Ev.bind e2 (Ev.pos rfl ?_)
    simp only [w1,w2,decide_eq_true hg]
    exact jT _ _
   ·obtain rfl:a=a':=by omega
    obtain ⟨k1,k2⟩:=cut N s' t' r hr
    have:=congrArg List.length k2
    simp only [List.length_append,List.length_drop,sumB_length] at this
    omega
  ·have w3 : wrap64 ((p:Int) + (m:Int))=((p+m:Nat):Int):=by
    rw [w64 (by omega) (by omega)]
    omega
   have w4:wrap64 (((p+m:Nat):Int) + 4)=((p+m+4:Nat):Int):=by
    rw [w64 (by omega) (by omega)]
    omega
   have t1:((p+m:Nat):Int).toNat=p+m:=Int.toNat_natCast _
   have t2:(p:Int).toNat=p:=Int.toNat_natCast _
   have t3:((p+m+4:Nat):Int).toNat=p+m+4:=Int.toNat_natCast _
   obtain ⟨B,hB⟩:∃ B,(b.take (p+m)).drop p=B:=⟨_,rfl⟩
   have hB2:B=(b.drop p).take m:=by
    rw [← hB,List.drop_take]
    congr 1
    omega
   have hBl:B.length=m:=by
    rw [hB2,List.length_take,List.length_drop]
    omega
   have hBb:InB B:=by
    rw [hB2]
    exact inB_take (inB_drop hb p) m
   obtain ⟨G,hG⟩:∃ G,(b.take (p+m+4)).drop (p+m)=G:=⟨_,rfl⟩
   have hGb:InB G:=by
    rw [← hG]
    exact inB_drop (inB_take hb _) _
   have hBG:b.drop p=B ++ (G ++ b.drop (p+m+4)):=by
    have i1:b.drop p=(b.drop p).take m ++ (b.drop p).drop m:=(List.take_append_drop _ _).symm
    have i2:b.drop (p+m)=(b.drop (p+m)).take 4 ++ (b.drop (p+m)).drop 4:=(List.take_append_drop _ _).symm
    have i3:G=(b.drop (p+m)).take 4:=by
     rw [← hG,List.drop_take]
     congr 1
     omega
    rw [List.drop_drop] at i1 i2
    rw [← i3] at i2
    rw [← hB2,i2] at i1
    exact i1
   have cutB:∀ (N:Nat) (s':ByteArray) (t':List ByteArray) r,b.drop a=commitB N s' t' ++ r->B=bodyB N s' t'∧G=sumB (bodyB N s' t'):=fun N s' t' r hr=>by
    obtain ⟨k1,k2⟩:=cut N s' t' r hr
    rw [hBG] at k2
    obtain ⟨k3,k4⟩:=List.append_inj k2 (by rw [hBl,k1])
    refine ⟨k3,(List.append_inj k4 ?_).1⟩
    rw [sumB_length,← hG,List.length_drop,List.length_take]
    omega
   have start:∀ r,Ev (fun q=>(spec_GetNum.f q B 0).bind fun bt9=>((spec_GetText.f q B bt9.2.1).bind fun bt12=>((spec_GetTexts.f q B bt12.2.1).bind fun bt15=>(if bt9.2.2=true then (if bt12.2.2=true then (if bt15.2.2=true then (if bt15.2.1=(B.length:Int) then ((spec_HeadOk.f bt9.1 bt12.1).bind fun t21=>(if t21=true then (if (bt15.1.length:Int)=0 then (some (0,(⟨#[]⟩:ByteArray),(([]:List ByteArray)),(a:Int),false)) else ((spec_Digest.f q B).bind fun t26=>(if 4≤(t26.size:Int) then (if (strOfNums G).toList=(t26.extract 0 4).toList then (some (bt9.1,bt12.1,bt15.1,((p+m+4:Nat):Int),true)) else (some (0,(⟨#[]⟩:ByteArray),(([]:List ByteArray)),(a:Int),false))) else (none)))) else (some (0,(⟨#[]⟩:ByteArray),(([]:List ByteArray)),(a:Int),false)))) else (some (0,(⟨#[]⟩:ByteArray),(([]:List ByteArray)),(a:Int),false))) else (some (0,(⟨#[]⟩:ByteArray),(([]:List ByteArray)),(a:Int),false))) else (some (0,(⟨#[]⟩:ByteArray),(([]:List ByteArray)),(a:Int),false))) else (some (0,(⟨#[]⟩:ByteArray),(([]:List ByteArray)),(a:Int),false)))))) r->Ev (fun q=>(spec_GetNum.f q b (a:Int)).bind fun bt2=>(if bt2.2.2=true then (spec_GetCommit.j0 q b (a:Int) bt2.1 bt2.2.1 (decide (bt2.1 > (wrap64 ((wrap64 ((b.length:Int) - bt2.2.1)) - 4))))) else (spec_GetCommit.j0 q b (a:Int) bt2.1 bt2.2.1 true))) r:=fun r hr=>by
    refine Ev.bind e2 (Ev.pos rfl ?_)
    simp only [w1,w2,decide_eq_false hg]
    have i1:(0:Int)≤((p+m:Nat):Int):=by omega
    have i2:((p+m:Nat):Int)≤((p+m+4:Nat):Int):=by omega
    have i3:((p+m+4:Nat):Int)≤(b.length:Int):=by omega
    have i4:(0:Nat)≤4:=by decide
    refine Ev.step (fun q=>by simp only [spec_GetCommit.j0,w3,w4,t1,t2,t3,hB,hG,if_pos i1,if_pos i2,if_pos i3,if_pos i4];rfl) ?_
    exact Ev.neg (by simp) (Ev.pos (by omega) (Ev.pos (by omega) (Ev.pos (by omega) hr)))
   rcases num_step B hBb (by omega) 0 (by omega) with ⟨g0,_,z0⟩|⟨v0,p1,q0,l0,y0,r0,g0,_⟩
   ·obtain ⟨u1,x1,o1,s1,r1⟩:=text_any B hBb (by omega) 0 (by omega)
    obtain ⟨u2,x2,o2,s2,r2⟩:=texts_any B hBb (by omega) x1 (by omega)
    refine ⟨0,⟨#[]⟩,[],(a:Int),false,start _ (Ev.bind g0 (Ev.bind s1 (Ev.bind s2 (Ev.neg (by simp) (Ev.now _))))),by simp,bad True fun a' N s' t' r ha hr hk c1 c2 c3=>?_⟩
    obtain rfl:a=a':=by omega
    have hh:=headOk_parts hk
    exact z0 N _ (show B.drop 0=num N ++ (textB s' ++ textsB t') from (cutB N s' t' r hr).1) (by omega)
   ·rcases text_step B hBb (by omega) p1 (by omega) with ⟨g1,_,z1⟩|⟨v1,p2,q1,l1,y1,r1,g1,_⟩
    ·obtain ⟨u2,x2,o2,s2,r2⟩:=texts_any B hBb (by omega) 0 (by omega)
     refine ⟨0,⟨#[]⟩,[],(a:Int),false,start _ (Ev.bind g0 (Ev.bind g1 (Ev.bind s2 (Ev.pos rfl (Ev.neg (by simp) (Ev.now _)))))),by simp,bad True fun a' N s' t' r ha hr hk c1 c2 c3=>?_⟩
     obtain rfl:a=a':=by omega
     have hh:=headOk_parts hk
     have d0:B.drop 0=num N ++ (textB s' ++ textsB t'):=(cutB N s' t' r hr).1
     have d1:=(num_inj _ _ _ _ (y0.symm.trans d0)).2
     exact z1 s' _ d1 (by omega)
    ·rcases texts_step B hBb (by omega) p2 (by omega) with ⟨g2,_,z2⟩|⟨v2,p3,q2,s2,l2,y2,r2,g2,_⟩
     ·refine ⟨0,⟨#[]⟩,[],(a:Int),false,start _ (Ev.bind g0 (Ev.bind g1 (Ev.bind g2 (Ev.pos rfl (Ev.pos rfl (Ev.neg (by simp) (Ev.now _))))))),by simp,bad True fun a' N s' t' r ha hr hk c1 c2 c3=>?_⟩
      obtain rfl:a=a':=by omega
      have d0:B.drop 0=num N ++ (textB s' ++ textsB t'):=(cutB N s' t' r hr).1
      have d1:=(num_inj _ _ _ _ (y0.symm.trans d0)).2
      have d2:=(textB_inj (y1.symm.trans d1)).2
      exact z2 t' [] (by rw [List.append_nil];exact d2) c2 c3
     ·have hBB:B=bodyB v0 v1 v2 ++ B.drop p3:=by
       have e:B.drop 0=num v0 ++ (textB v1 ++ (textsB v2 ++ B.drop p3)):=by rw [y0,y1,y2]
       unfold bodyB
       simp only [List.append_assoc]
       exact e
      have same:∀ (N:Nat) (s':ByteArray) (t':List ByteArray) r,b.drop a=commitB N s' t' ++ r->v0=N∧v1=s'∧v2=t'∧B.drop p3=[]∧G=sumB B:=fun N s' t' r hr=>by
       obtain ⟨k1,k2⟩:=cutB N s' t' r hr
       obtain ⟨h1,h2,h3,h4⟩:=bodyB_inj (show bodyB v0 v1 v2 ++ B.drop p3=bodyB N s' t' ++ [] by rw [List.append_nil,← hBB,k1])
       exact ⟨h1,h2,h3,h4,by rw [k1];exact k2⟩
      have hD:=spec_Digest_ev B (by omega) hBb
      have hsz:(sha B).size=32:=sha_size _
      by_cases hp3:(p3:Int)=(B.length:Int)
      ·have hnil:B.drop p3=[]:=List.drop_eq_nil_of_le (by omega)
       rw [hnil,List.append_nil] at hBB
       by_cases hk:headOk (v0:Int) v1=true
       ·by_cases hz:(v2.length:Int)=0
        ·refine ⟨0,⟨#[]⟩,[],(a:Int),false,start _ (Ev.bind g0 (Ev.bind g1 (Ev.bind g2 (Ev.pos rfl (Ev.pos rfl (Ev.pos rfl (Ev.pos hp3 (Ev.bind (Ev.const (spec_HeadOk_eq _ _)) (Ev.pos hk (Ev.pos hz (Ev.now _))))))))))),by simp,bad True fun a' N s' t' r ha hr hk2 c1 c2 c3=>?_⟩
         obtain rfl:a=a':=by omega
         obtain ⟨_,_,rfl,_⟩:=same N s' t' r hr
         omega
        ·by_cases hsum:(strOfNums G).toList=((sha B).extract 0 4).toList
         ·have hGs:=(sum_iff hGb B).1 hsum
          have hlen:(commitB v0 v1 v2).length=(num m).length+m+4:=by rw [commitB_length,← hBB,hBl]
          refine ⟨(v0:Int),v1,v2,((p+m+4:Nat):Int),true,start _ (Ev.bind g0 (Ev.bind g1 (Ev.bind g2 (Ev.pos rfl (Ev.pos rfl (Ev.pos rfl (Ev.pos hp3 (Ev.bind (Ev.const (spec_HeadOk_eq _ _)) (Ev.pos hk (Ev.neg hz (Ev.bind hD (Ev.pos (by omega) (Ev.pos hsum (Ev.now _)))))))))))))),q2,fun _=>⟨a,v0,rfl,rfl,hk,by omega,?_,?_,?_⟩,fun h=>(by cases h)⟩
          ·rw [hlen,show a+((num m).length+m+4)=p+m+4 by omega,hd,hBG,hGs]
           unfold commitB
           rw [← hBB,hBl]
           simp only [List.append_assoc]
          ·rw [hlen]
           congr 1
           omega
          ·rw [hlen]
           omega
         ·refine ⟨0,⟨#[]⟩,[],(a:Int),false,start _ (Ev.bind g0 (Ev.bind g1 (Ev.bind g2 (Ev.pos rfl (Ev.pos rfl (Ev.pos rfl (Ev.pos hp3 (Ev.bind (Ev.const (spec_HeadOk_eq _ _)) (Ev.pos hk (Ev.neg hz (Ev.bind hD (Ev.pos (by omega) (Ev.neg hsum (Ev.now _)))))))))))))),by simp,bad True fun a' N s' t' r ha hr hk2 c1 c2 c3=>?_⟩
          obtain rfl:a=a':=by omega
          obtain ⟨_,_,_,_,h5⟩:=same N s' t' r hr
          exact hsum ((sum_iff hGb B).2 h5)
       ·refine ⟨0,⟨#[]⟩,[],(a:Int),false,start _ (Ev.bind g0 (Ev.bind g1 (Ev.bind g2 (Ev.pos rfl (Ev.pos rfl (Ev.pos rfl (Ev.pos hp3 (Ev.bind (Ev.const (spec_HeadOk_eq _ _)) (Ev.neg hk (Ev.now _)))))))))),by simp,bad True fun a' N s' t' r ha hr hk2 c1 c2 c3=>?_⟩
        obtain rfl:a=a':=by omega
        obtain ⟨rfl,rfl,_⟩:=same N s' t' r hr
        exact hk hk2
      ·refine ⟨0,⟨#[]⟩,[],(a:Int),false,start _ (Ev.bind g0 (Ev.bind g1 (Ev.bind g2 (Ev.pos rfl (Ev.pos rfl (Ev.pos rfl (Ev.neg hp3 (Ev.now _)))))))),by simp,bad True fun a' N s' t' r ha hr hk2 c1 c2 c3=>?_⟩
       obtain rfl:a=a':=by omega
       obtain ⟨_,_,_,h4,_⟩:=same N s' t' r hr
       have:=congrArg List.length h4
       rw [List.length_drop] at this
       simp only [List.length_nil] at this
       omega
theorem commit_small {b:List Int} {a N:Nat} {s:ByteArray} {t:List ByteArray} {r:List Int} (hl:b.length≤10000000) (h:b.drop a=commitB N s t ++ r):∀ x ∈ t,x.size≤1000000000:=fun x hx=>by
 have h1:=congrArg List.length h
 rw [List.length_drop,List.length_append,commitB_length] at h1
 have h2:=bodyB_ge N s t
 have h3:=total_mem hx
 omega
theorem getCommit_both (b:List Int) (hb:InB b) (hl:b.length≤10000000) (at_:Int) (h0:-9223372036854775808≤at_) (h1:at_≤9223372036854775807) :
  ∃ n s t nx ok,Ev (fun q=>spec_GetCommit.f q b at_) (n,s,t,nx,ok)∧Ev (fun q=>impl_GetCommit.f q b at_) (n,s,t,nx,ok)∧t.length≤200:=by
 obtain ⟨n,s,t,nx,ok,e1,ht,c1,c2⟩:=getCommitI b hb hl at_ h0 h1
 obtain ⟨n',s',t',nx',ok',e2,ht',d1,d2⟩:=getCommitS b hb hl at_ h0 h1
 cases ok with
 | true =>
  obtain ⟨a,N,rfl,rfl,hk,hz,hd,rfl,hle⟩:=c1 rfl
  cases ok' with
  | true =>
   obtain ⟨a',N',ha,rfl,hk',hz',hd',rfl,hle'⟩:=d1 rfl
   obtain rfl:a=a':=by omega
   obtain ⟨rfl,rfl,rfl,_⟩:=commitB_inj (hd.symm.trans hd')
   exact ⟨_,_,_,_,_,e2,e1,ht⟩
  | false=>exact absurd ((d2 rfl).2.2.2.2 a N s t _ rfl hd hk hz ht (commit_small hl hd)) id
 | false =>
  obtain ⟨rfl,rfl,rfl,rfl,c3⟩:=c2 rfl
  cases ok' with
  | true =>
   obtain ⟨a',N',rfl,rfl,hk',hz',hd',rfl,hle'⟩:=d1 rfl
   exact absurd (c3 a' N' s' t' _ rfl hd' hk' hz' ht' (commit_small hl hd')) id
  | false =>
   obtain ⟨rfl,rfl,rfl,rfl,_⟩:=d2 rfl
   exact ⟨_,_,_,_,_,e2,e1,ht⟩
def bigB:Nat:=1048608
theorem node_small {a b:ByteArray} (ha:a.size≤bigB) (hb:b.size≤bigB):a.size+b.size≤1099511627775:=by unfold bigB at *;omega
theorem mem_take_of {l:List ByteArray} {n:Nat} (h:∀ x ∈ l,x.size≤bigB):∀ x ∈ l.take n,x.size≤bigB:=fun x hx=>h x (List.mem_of_mem_take hx)
theorem mem_drop_of {l:List ByteArray} {n:Nat} (h:∀ x ∈ l,x.size≤bigB):∀ x ∈ l.drop n,x.size≤bigB:=fun x hx=>h x (List.mem_of_mem_drop hx)
theorem leafs_small (l:List ByteArray):∀ x ∈ l,(leafH x).size≤bigB:=fun x _=>by rw [leafH_size];decide
theorem root_small (l:List ByteArray):(rootBy leafH l).size≤bigB:=rootBy_size leafH bigB (by decide) _ (leafs_small l)
theorem root_32 (l:List ByteArray):(rootBy leafH l).size=32:=by
 by_cases h:2≤l.length
 ·rw [rootBy_more leafH h]
  exact nodeH_size _ _
 ·by_cases h0:l.length=0
  ·rw [List.eq_nil_of_length_eq_zero h0,rootBy_nil]
   exact sha_size _
  ·obtain ⟨a,rfl⟩:=list_one (l:=l) (by omega)
   rw [rootBy_one]
   exact leafH_size _
theorem rooted_impl:∀ (n:Nat) (l:List ByteArray),l.length≤n->l.length≤4611686018427387904->(∀ x ∈ l,x.size≤bigB)->Ev (fun k=>impl_rootOf.f k l) (rootBy leafH l):=by
 intro n
 induction n with
 | zero =>
  intro l h1 h2 hs
  obtain rfl:=List.eq_nil_of_length_eq_zero (show l.length=0 by omega)
  rw [rootBy_nil]
  refine Ev.step (fun k=>by simp only [impl_rootOf.f];rfl) ?_
  exact Ev.pos rfl (Ev.bind (Ev.const (impl_Digest_is [] (by decide))) (Ev.now _))
 | succ n ih =>
  intro l h1 h3 hs
  by_cases h:2≤l.length
  ·obtain ⟨p1,p2,p3,p4⟩:=cut_parts l h
   have hh:=half_lt h
   have e1:=ih (l.take (half l.length)) (by omega) (by omega) (mem_take_of hs)
   have e2:=ih (l.drop (half l.length)) (by omega) (by omega) (mem_drop_of hs)
   have e3:=impl_node _ _ (node_small (root_small (l.take (half l.length))) (root_small (l.drop (half l.length))))
   rw [rootBy_more leafH h]
   refine Ev.step (fun k=>by simp only [impl_rootOf.f];rfl) ?_
   refine Ev.neg (by omega) (Ev.neg (by omega) (Ev.bind (impl_half_ev l.length h h3) ?_))
   exact Ev.pos (by omega) (Ev.pos (by omega) (Ev.bind e1 (Ev.bind e2 (Ev.bind (Ev.const e3) (Ev.now _)))))
  ·match l,h with
   | [],_ =>
    rw [rootBy_nil]
    refine Ev.step (fun k=>by simp only [impl_rootOf.f];rfl) ?_
    exact Ev.pos rfl (Ev.bind (Ev.const (impl_Digest_is [] (by decide))) (Ev.now _))
   | [a],_ =>
    rw [rootBy_one]
    have ha:=hs a (by simp)
    refine Ev.step (fun k=>by simp only [impl_rootOf.f];rfl) ?_
    refine Ev.neg (by simp) (Ev.pos rfl (Ev.pos (by simp) ?_))
    exact Ev.bind (Ev.const (impl_leaf a (by unfold bigB at ha;omega))) (Ev.now _)
   | _ :: _ :: _,h=>simp at h
theorem rooted_spec:∀ (n:Nat) (l:List ByteArray),l.length≤n->l.length≤4611686018427387904->(∀ x ∈ l,x.size≤bigB)->Ev (fun k=>spec_l6Root.f k l) (rootBy leafH l):=by
 intro n
 induction n with
 | zero =>
  intro l h1 h2 hs
  obtain rfl:=List.eq_nil_of_length_eq_zero (show l.length=0 by omega)
  rw [rootBy_nil]
  refine Ev.step (fun k=>by simp only [spec_l6Root.f];rfl) ?_
  exact Ev.pos rfl (Ev.bind (spec_Digest_ev [] (by decide) (by simp)) (Ev.now _))
 | succ n ih =>
  intro l h1 h3 hs
  by_cases h:2≤l.length
  ·obtain ⟨p1,p2,p3,p4⟩:=cut_parts l h
   have hh:=half_lt h
   have e1:=ih (l.take (half l.length)) (by omega) (by omega) (mem_take_of hs)
   have e2:=ih (l.drop (half l.length)) (by omega) (by omega) (mem_drop_of hs)
   have e3:=spec_node _ _ (node_small (root_small (l.take (half l.length))) (root_small (l.drop (half l.length))))
   rw [rootBy_more leafH h]
   refine Ev.step (fun k=>by simp only [spec_l6Root.f];rfl) ?_
   refine Ev.neg (by omega) (Ev.neg (by omega) (Ev.bind (spec_half l.length h h3) ?_))
   exact Ev.pos (by omega) (Ev.pos (by omega) (Ev.bind e1 (Ev.bind e2 (Ev.bind e3 (Ev.now _)))))
  ·match l,h with
   | [],_ =>
    rw [rootBy_nil]
    refine Ev.step (fun k=>by simp only [spec_l6Root.f];rfl) ?_
    exact Ev.pos rfl (Ev.bind (spec_Digest_ev [] (by decide) (by simp)) (Ev.now _))
   | [a],_ =>
    rw [rootBy_one]
    have ha:=hs a (by simp)
    refine Ev.step (fun k=>by simp only [spec_l6Root.f];rfl) ?_
    refine Ev.neg (by simp) (Ev.pos rfl (Ev.pos (by simp) ?_))
    exact Ev.bind (spec_leaf a (by unfold bigB at ha;omega)) (Ev.now _)
   | _ :: _ :: _,h=>simp at h
def headOf (l:List ByteArray):Int × ByteArray:=if (l.length:Int) > 200 then (0,⟨#[]⟩) else ((l.length:Int),rootBy leafH l)
theorem headOf_few {l:List ByteArray} (h:l.length≤200):headOf l=((l.length:Int),rootBy leafH l):=if_neg (by omega)
theorem headOf_many {l:List ByteArray} (h:¬ l.length≤200):headOf l=(0,⟨#[]⟩):=if_pos (by omega)
theorem spec_HeadOf_ev (l:List ByteArray) (hs:∀ x ∈ l,x.size≤bigB):Ev (fun k=>spec_HeadOf.f k l) (headOf l):=by
 unfold spec_HeadOf.f
 by_cases h:l.length≤200
 ·rw [headOf_few h]
  exact Ev.neg (by omega) (Ev.bind (rooted_spec l.length l (Nat.le_refl _) (by omega) hs) (Ev.now _))
 ·rw [headOf_many h]
  exact Ev.pos (by omega) (Ev.now _)
theorem impl_HeadOf_ev (l:List ByteArray) (hs:∀ x ∈ l,x.size≤bigB):Ev (fun k=>impl_HeadOf.f k l) (headOf l):=by
 unfold impl_HeadOf.f
 by_cases h:l.length≤200
 ·rw [headOf_few h]
  exact Ev.neg (by omega) (Ev.bind (rooted_impl l.length l (Nat.le_refl _) (by omega) hs) (Ev.now _))
 ·rw [headOf_many h]
  exact Ev.pos (by omega) (Ev.now _)
def logOk (l:List ByteArray) (n:Int) (s:ByteArray):Bool:=if (l.length:Int)≤200 then (n == (headOf l).1 && (s.toList == (headOf l).2.toList)) else false
theorem spec_LogOk_ev (l:List ByteArray) (n:Int) (s:ByteArray) (hs:∀ x ∈ l,x.size≤bigB):Ev (fun k=>spec_LogOk.f k l n s) (logOk l n s):=by
 unfold spec_LogOk.f logOk
 by_cases h:(l.length:Int)≤200
 ·rw [if_pos h]
  exact Ev.pos h (Ev.bind (spec_HeadOf_ev l hs) (Ev.now _))
 ·rw [if_neg h]
  exact Ev.neg h (Ev.now _)
theorem impl_LogOk_ev (l:List ByteArray) (n:Int) (s:ByteArray) (hs:∀ x ∈ l,x.size≤bigB):Ev (fun k=>impl_LogOk.f k l n s) (logOk l n s):=by
 unfold impl_LogOk.f logOk
 by_cases h:(l.length:Int)≤200
 ·rw [if_pos h]
  exact Ev.pos h (Ev.bind (impl_HeadOf_ev l hs) (Ev.now _))
 ·rw [if_neg h]
  exact Ev.neg h (Ev.now _)
theorem log_new:Ev (fun k=>spec_LogNew.f k) (([]:List ByteArray),(headOf []).1,(headOf []).2):=by
 unfold spec_LogNew.f
 exact Ev.bind (spec_HeadOf_ev [] (by simp)) (Ev.now _)
theorem ev_uniq {α:Type} {g:Nat->Option α} {r q:α} (h:Ev g r) (k:Ev g q):r=q:=by
 obtain ⟨K,h⟩:=h
 obtain ⟨M,k⟩:=k
 exact Option.some.inj ((h (max K M) (Nat.le_max_left _ _)).symm.trans (k (max K M) (Nat.le_max_right _ _)))
theorem getCommit_step (b:List Int) (hb:InB b) (hl:b.length≤1048576) (a:Nat) (ha:a≤b.length) :
  ∃ n s t nx ok,Ev (fun q=>spec_GetCommit.f q b (a:Int)) (n,s,t,nx,ok)∧Ev (fun q=>impl_GetCommit.f q b (a:Int)) (n,s,t,nx,ok)∧t.length≤200∧(∀ x ∈ t,x.size≤bigB) ∧
   (ok=true->∃ c:Nat,nx=(c:Int)∧a < c∧c≤b.length)∧(ok=false->t=[]):=by
 obtain ⟨n,s,t,nx,ok,e1,ht,c1,c2⟩:=getCommitI b hb (by omega) (a:Int) (by omega) (by omega)
 obtain ⟨n',s',t',nx',ok',e2,e3,_⟩:=getCommit_both b hb (by omega) (a:Int) (by omega) (by omega)
 have h:=ev_uniq e3 e1
 simp only [Prod.mk.injEq] at h
 obtain ⟨rfl,rfl,rfl,rfl,rfl⟩:=h
 refine ⟨_,_,_,_,_,e2,e1,ht,?_,?_,?_⟩
 ·cases hok:ok' with
  | true =>
   obtain ⟨a',N,h1,rfl,_,_,hd,_,hle⟩:=c1 hok
   intro x hx
   have h2:=commitB_length N s' t'
   have h3:=bodyB_ge N s' t'
   have h4:=total_mem hx
   unfold bigB
   omega
  | false =>
   obtain ⟨_,_,rfl,_⟩:=c2 hok
   intro x hx
   cases hx
 ·intro hok
  obtain ⟨a',N,h1,rfl,_,_,hd,h2,hle⟩:=c1 hok
  have h3:=commitB_length N s' t'
  exact ⟨_,h2,by omega,hle⟩
 ·intro hok
  exact (c2 hok).2.2.1
theorem sizes_app {l t:List ByteArray} (h:∀ x ∈ l,x.size≤bigB) (k:∀ x ∈ t,x.size≤bigB):∀ x ∈ l ++ t,x.size≤bigB:=fun x hx=>(List.mem_append.1 hx).elim (h x) (k x)
theorem impl_many (b:List Int) (hb:InB b) (hl:b.length≤1048576) (L:List ByteArray) (hL:L.length≤200) (N:Int) (S:ByteArray) (U:Int):∀ (m a:Nat) (T:List ByteArray),b.length - a≤m->a≤b.length->200 < T.length->T.length+200 * (b.length - a)≤1000000000->(∀ x ∈ T,x.size≤bigB) →
  Ev (fun k=>impl_StoreOk.l0 k T (a:Int) L N S b U) false:=by
 intro m
 induction m with
 | zero =>
  intro a T h1 h2 h3 h4 h5
  refine Ev.step (fun k=>by simp only [impl_StoreOk.l0];rfl) ?_
  refine Ev.neg (by omega) (Ev.bind (impl_same_ev T L (by omega)) ?_)
  rw [decide_eq_false (fun e=>by rw [e] at h3;omega)]
  exact Ev.now _
 | succ m ih =>
  intro a T h1 h2 h3 h4 h5
  refine Ev.step (fun k=>by simp only [impl_StoreOk.l0];rfl) ?_
  by_cases ha:(a:Int) < (b.length:Int)
  ·obtain ⟨n,s,t,nx,ok,e1,e2,ht,hs,c1,c2⟩:=getCommit_step b hb hl a h2
   refine Ev.pos ha (Ev.bind e2 ?_)
   simp only
   refine Ev.pos (by omega) ?_
   simp only [Option.bind_some]
   cases ok with
   | false=>exact Ev.neg (by simp) (Ev.now _)
   | true =>
    obtain ⟨c,rfl,h6,h7⟩:=c1 rfl
    refine Ev.pos rfl (Ev.bind (impl_HeadOf_ev (T ++ t) (sizes_app h5 hs)) ?_)
    by_cases hh:(!(n == (headOf (T ++ t)).1) || (!(s.toList == (headOf (T ++ t)).2.toList)))=true
    ·exact Ev.pos hh (Ev.now _)
    ·refine Ev.neg hh (ih c (T ++ t) (by omega) h7 (by rw [List.length_append];omega) (by rw [List.length_append];omega) (sizes_app h5 hs))
  ·refine Ev.neg ha (Ev.bind (impl_same_ev T L (by omega)) ?_)
   rw [decide_eq_false (fun e=>by rw [e] at h3;omega)]
   exact Ev.now _
theorem replay_both (b:List Int) (hb:InB b) (hl:b.length≤1048576) (L:List ByteArray) (hL:L.length≤200) (N:Int) (S:ByteArray) (U:Int):∀ (m a:Nat) (T:List ByteArray) (n:Int) (s:ByteArray),b.length - a≤m->a≤b.length->T.length≤200->(∀ x ∈ T,x.size≤bigB) →
  ∃ T' n' s' ok,Ev (fun k=>spec_l12Replay.l0 k b (a:Int) T n s) (T',n',s',ok)∧T'.length≤200∧(∀ x ∈ T',x.size≤bigB)∧Ev (fun k=>impl_StoreOk.l0 k T (a:Int) L N S b U) (if ok=true then decide (T'=L) else false):=by
 intro m
 induction m with
 | zero =>
  intro a T n s h1 h2 h3 h5
  refine ⟨T,n,s,true,?_,h3,h5,?_⟩
  ·refine Ev.step (fun k=>by simp only [spec_l12Replay.l0];rfl) ?_
   exact Ev.neg (by omega) (Ev.now _)
  ·refine Ev.step (fun k=>by simp only [impl_StoreOk.l0];rfl) ?_
   exact Ev.neg (by omega) (Ev.bind (impl_same_ev T L (by omega)) (Ev.now _))
 | succ m ih =>
  intro a T n s h1 h2 h3 h5
  by_cases ha:(a:Int) < (b.length:Int)
  ·obtain ⟨n1,s1,t,nx,ok,e1,e2,ht,hs,c1,c2⟩:=getCommit_step b hb hl a h2
   cases ok with
   | false =>
    refine ⟨T,n,s,false,?_,h3,h5,?_⟩
    ·refine Ev.step (fun k=>by simp only [spec_l12Replay.l0];rfl) ?_
     refine Ev.pos ha (Ev.bind e1 (Ev.neg (by simp) ?_))
     refine Ev.step (fun k=>by simp only [spec_l12Replay.j1];rfl) ?_
     exact Ev.pos trivial (Ev.now _)
    ·refine Ev.step (fun k=>by simp only [impl_StoreOk.l0];rfl) ?_
     refine Ev.pos ha (Ev.bind e2 (Ev.pos (by simp only;omega) ?_))
     simp only [Option.bind_some]
     exact Ev.neg (by simp) (Ev.now _)
   | true =>
    obtain ⟨c,rfl,h6,h7⟩:=c1 rfl
    have hw:wrap64 ((T.length:Int) + (t.length:Int))=((T.length+t.length:Nat):Int):=by
     rw [w64 (by omega) (by omega)]
     omega
    have hsz:=sizes_app h5 hs
    have hI:∀ r,Ev (fun k=>if (!(n1 == (headOf (T ++ t)).1) || (!(s1.toList == (headOf (T ++ t)).2.toList)))=true then some false else impl_StoreOk.l0 k (T ++ t) (c:Int) L N S b U) r->Ev (fun k=>impl_StoreOk.l0 k T (a:Int) L N S b U) r:=by
     intro r hr
     refine Ev.step (fun k=>by simp only [impl_StoreOk.l0];rfl) ?_
     refine Ev.pos ha (Ev.bind e2 (Ev.pos (by simp only;omega) ?_))
     simp only [Option.bind_some]
     exact Ev.pos trivial (Ev.bind (impl_HeadOf_ev (T ++ t) hsz) hr)
    by_cases hm:T.length+t.length≤200
    ·have hS:∀ r,Ev (fun k=>if (!(n1 == (headOf (T ++ t)).1) || (!(s1.toList == (headOf (T ++ t)).2.toList)))=true then some (T ++ t,n1,s1,false) else spec_l12Replay.l0 k b (c:Int) (T ++ t) n1 s1) r->Ev (fun k=>spec_l12Replay.l0 k b (a:Int) T n s) r:=by
      intro r hr
      refine Ev.step (fun k=>by simp only [spec_l12Replay.l0];rfl) ?_
      refine Ev.pos ha (Ev.bind e1 (Ev.pos rfl ?_))
      simp only [hw]
      rw [decide_eq_false (by omega)]
      refine Ev.step (fun k=>by simp only [spec_l12Replay.j1];rfl) ?_
      refine Ev.neg (by simp) (Ev.pos (by omega) ?_)
      simp only [Option.bind_some]
      exact Ev.bind (spec_HeadOf_ev (T ++ t) hsz) hr
     have hlen:(T ++ t).length≤200:=by rw [List.length_append];exact hm
     by_cases hh:(!(n1 == (headOf (T ++ t)).1) || (!(s1.toList == (headOf (T ++ t)).2.toList)))=true
     ·exact ⟨_,_,_,false,hS _ (Ev.pos hh (Ev.now _)),hlen,hsz,hI _ (Ev.pos hh (Ev.now _))⟩
     ·obtain ⟨T',n',s',ok,f1,f2,f3,f4⟩:=ih c (T ++ t) n1 s1 (by omega) h7 hlen hsz
      exact ⟨T',n',s',ok,hS _ (Ev.neg hh f1),f2,f3,hI _ (Ev.neg hh f4)⟩
    ·refine ⟨T,n,s,false,?_,h3,h5,?_⟩
     ·refine Ev.step (fun k=>by simp only [spec_l12Replay.l0];rfl) ?_
      refine Ev.pos ha (Ev.bind e1 (Ev.pos rfl ?_))
      simp only [hw]
      rw [decide_eq_true (by omega)]
      refine Ev.step (fun k=>by simp only [spec_l12Replay.j1];rfl) ?_
      exact Ev.pos trivial (Ev.now _)
     ·refine hI _ ?_
      by_cases hh:(!(n1 == (headOf (T ++ t)).1) || (!(s1.toList == (headOf (T ++ t)).2.toList)))=true
      ·exact Ev.pos hh (Ev.now _)
      ·exact Ev.neg hh (impl_many b hb hl L hL N S U (b.length - c) c (T ++ t) (Nat.le_refl _) h7 (by rw [List.length_append];omega) (by rw [List.length_append];omega) hsz)
  ·refine ⟨T,n,s,true,?_,h3,h5,?_⟩
   ·refine Ev.step (fun k=>by simp only [spec_l12Replay.l0];rfl) ?_
    exact Ev.neg ha (Ev.now _)
   ·refine Ev.step (fun k=>by simp only [impl_StoreOk.l0];rfl) ?_
    exact Ev.neg ha (Ev.bind (impl_same_ev T L (by omega)) (Ev.now _))
theorem storeOk_both (l:List ByteArray) (n:Int) (s:ByteArray) (b:List Int) (u:Int) (hb:InB b) (hl:b.length≤1048576) (hs:∀ x ∈ l,x.size≤bigB) :
  ∃ r,Ev (fun k=>spec_StoreOk.f k l n s b u) r∧Ev (fun k=>impl_StoreOk.f k l n s b u) r:=by
 have jS:Ev (fun k=>spec_StoreOk.j0 k true l n s b u) false:=by
  refine Ev.step (fun k=>by simp only [spec_StoreOk.j0];rfl) ?_
  exact Ev.pos trivial (Ev.now _)
 have jI:Ev (fun k=>impl_StoreOk.j0 k true l n s b u) false:=by
  refine Ev.step (fun k=>by simp only [impl_StoreOk.j0];rfl) ?_
  exact Ev.pos trivial (Ev.now _)
 have lS:=spec_LogOk_ev l n s hs
 have lI:=impl_LogOk_ev l n s hs
 unfold spec_StoreOk.f impl_StoreOk.f
 by_cases h1:logOk l n s=true
 ·by_cases h2:(b.length:Int) > 60000
  ·exact ⟨false,Ev.bind lS (Ev.pos h1 (Ev.pos h2 jS)),Ev.bind lI (Ev.pos h1 (Ev.pos h2 jI))⟩
  ·have hlen:l.length≤200:=by
    unfold logOk at h1
    by_cases h:(l.length:Int)≤200
    ·omega
    ·rw [if_neg h] at h1
     cases h1
   have iS:spec_l1In.f u 0 (b.length:Int)=some (decide (0≤u) && decide (u≤(b.length:Int))):=by
    unfold spec_l1In.f
    by_cases h:u ≥ 0
    ·rw [if_pos h,decide_eq_true h]
     rfl
    ·rw [if_neg h,decide_eq_false h]
     rfl
   have iI:impl_inRange.f u 0 (b.length:Int)=some (decide (0≤u) && decide (u≤(b.length:Int))):=by
    unfold impl_inRange.f
    by_cases h:u ≥ 0
    ·rw [if_pos h,decide_eq_true h]
     rfl
    ·rw [if_neg h,decide_eq_false h]
     rfl
   have fin:∀ q:Bool,∃ r,Ev (fun k=>spec_StoreOk.j0 k (!q) l n s b u) r∧Ev (fun k=>impl_StoreOk.j0 k (!q) l n s b u) r:=by
    intro q
    cases q with
    | false=>exact ⟨false,jS,jI⟩
    | true =>
     obtain ⟨T',n',s',ok,f1,f2,f3,f4⟩:=replay_both b hb hl l hlen n s u b.length 0 [] (headOf []).1 (headOf []).2 (by omega) (by omega) (by simp) (by simp)
     have fI:Ev (fun k=>impl_StoreOk.j0 k (!true) l n s b u) (if ok=true then decide (T'=l) else false):=by
      refine Ev.step (fun k=>by simp only [impl_StoreOk.j0];rfl) ?_
      exact Ev.neg (by simp) f4
     have rS:Ev (fun k=>spec_l12Replay.f k b) (T',n',s',ok):=by
      unfold spec_l12Replay.f
      exact Ev.bind log_new f1
     refine ⟨_,?_,fI⟩
     refine Ev.step (fun k=>by simp only [spec_StoreOk.j0];rfl) ?_
     refine Ev.neg (by simp) (Ev.bind rS ?_)
     cases ok with
     | true=>exact Ev.pos rfl (Ev.bind (spec_same_ev T' l (by omega)) (Ev.now _))
     | false=>exact Ev.neg (by simp) (Ev.now _)
   obtain ⟨r,r1,r2⟩:=fin (decide (0≤u) && decide (u≤(b.length:Int)))
   exact ⟨r,Ev.bind lS (Ev.pos h1 (Ev.neg h2 (Ev.bind (Ev.const iS) r1))),Ev.bind lI (Ev.pos h1 (Ev.neg h2 (Ev.bind (Ev.const iI) r2)))⟩
 ·exact ⟨false,Ev.bind lS (Ev.neg h1 jS),Ev.bind lI (Ev.neg h1 jI)⟩
theorem l12Put_val (n:Nat) (s:ByteArray) (t:List ByteArray) (hn:n≤200) (hs:s.size≤1000) (ht:t.length≤1000000) (htt:total t≤100000000) (hx:∀ x ∈ t,x.size≤1000000000):Ev (fun q=>spec_l12Put.f q (n:Int) s t) (commitB n s t):=by
 have ht0:=total_nonneg t
 have a2:=(putNum_val [] n (by omega) (by simp)).1
 have h5:=num_five (show n≤1000000000 by omega)
 have hs5:=num_five (show s.size≤1000000000 by omega)
 have b2:=(putText_val ([] ++ num n) s (by omega) (by simp;omega)).1
 have c2:=(putTexts_val ([] ++ num n ++ textB s) t (by rw [List.length_append,textB_length];simp;omega) (by omega) hx).1
 have eb:[] ++ num n ++ textB s ++ textsB t=bodyB n s t:=by
  unfold bodyB
  simp
 rw [eb] at c2
 have hm:=manyB_length t hx
 have ht5:=num_five (show t.length≤1000000000 by omega)
 have hbl:(bodyB n s t).length≤1000000000:=by
  unfold bodyB textsB
  rw [List.length_append,List.length_append,List.length_append,textB_length]
  omega
 have h4:((sha (bodyB n s t)).extract 0 4).size=4:=by
  rw [ByteArray.size_extract,sha_size]
  rfl
 have h32:(sha (bodyB n s t)).size=32:=sha_size _
 have d2:=(putNum_val [] (bodyB n s t).length hbl (by simp)).1
 have hd5:=num_five hbl
 rw [List.nil_append] at d2
 unfold spec_l12Put.f commitB sumB
 refine Ev.bind a2 (Ev.bind b2 (Ev.bind c2 (Ev.bind d2 (Ev.pos (by omega) (Ev.bind (Ev.now _) (Ev.bind (spec_Digest_ev (bodyB n s t) (by omega) (bodyB_inB n s t)) ?_))))))
 rw [← List.append_assoc]
 exact Ev.pos (by omega) (Ev.pos (by omega) (Ev.pos (by rw [List.length_append,h4];omega) (Ev.now _)))
def isHead (l:List ByteArray) (a:Int) (z:ByteArray):Bool:=a == (headOf l).1 && (z.toList == (headOf l).2.toList)
def extOf (t:List IHead) (l:List ByteArray) (n:Int) (s:ByteArray) (a:Int) (z:ByteArray) (x:List ByteArray):List ByteArray × Int × ByteArray × Int :=
 if (headOk a z && (a == ((l.length+x.length:Nat):Int)))=true then
  (if hasHead t a z=true then (if x.length=0 then (l,n,s,3) else (if isHead (l ++ x) a z=true then (l ++ x,a,z,0) else (l,n,s,4))) else (l,n,s,2))
 else (l,n,s,1)
def extendOf (t:List IHead) (l:List ByteArray) (n:Int) (s:ByteArray) (a:Int) (z:ByteArray) (x:List ByteArray):List ByteArray × Int × ByteArray × Int :=
 if logOk l n s=true then extOf t l n s a z x else (l,n,s,1)
theorem ne_head (a b:Int) (u v:List UInt8):(!(a == b) || !(u == v)) = !(a == b && (u == v)):=by simp
theorem head_sym (a b:Int) (u v:List UInt8):(a == b && (u == v))=(b == a && (v == u)):=by rw [Bool.beq_comm (a:=a),Bool.beq_comm (a:=u)]
theorem extend_j0S (t:List IHead) (l:List ByteArray) (n:Int) (s:ByteArray) (a:Int) (z:ByteArray) (x:List ByteArray) (ht:t.length≤9223372036854775807) (hs:∀ y ∈ l ++ x,y.size≤bigB) (hf:Bool) :
  Ev (fun k=>spec_Extend.j0 k t x (l ++ x) hf a z l n s) (if hf=true then (l,n,s,1) else (if hasHead t a z=true then (if x.length=0 then (l,n,s,3) else (if isHead (l ++ x) a z=true then (l ++ x,a,z,0) else (l,n,s,4))) else (l,n,s,2))):=by
 refine Ev.step (fun k=>by simp only [spec_Extend.j0];rfl) ?_
 cases hf with
 | true=>exact Ev.pos rfl (Ev.now _)
 | false =>
  refine Ev.neg (by simp) (Ev.bind (spec_IsSigned_ev t a z ht) ?_)
  rw [if_neg (by simp)]
  by_cases h1:hasHead t a z=true
  ·rw [if_pos h1]
   refine Ev.pos h1 ?_
   by_cases h2:x.length=0
   ·rw [if_pos h2]
    exact Ev.pos (by omega) (Ev.now _)
   ·rw [if_neg h2]
    refine Ev.neg (by omega) (Ev.bind (spec_HeadOf_ev (l ++ x) hs) ?_)
    rw [ne_head]
    by_cases h3:isHead (l ++ x) a z=true
    ·rw [if_pos h3]
     exact Ev.neg (by unfold isHead at h3;rw [h3];simp) (Ev.now _)
    ·rw [if_neg h3]
     exact Ev.pos (by unfold isHead at h3;rw [Bool.eq_false_iff.mpr h3];rfl) (Ev.now _)
  ·rw [if_neg h1]
   exact Ev.neg h1 (Ev.now _)
theorem extend_j0I (t:List IHead) (l:List ByteArray) (n:Int) (s:ByteArray) (a:Int) (z:ByteArray) (x:List ByteArray) (ht:t.length≤9223372036854775807) (hs:∀ y ∈ l ++ x,y.size≤bigB) (hl:l.length+x.length≤1000000000) (hf:Bool) :
  Ev (fun k=>impl_extend.j0 k t x hf l n s a z) (if hf=true then (l,n,s,1) else (if hasHead t a z=true then (if x.length=0 then (l,n,s,3) else (if isHead (l ++ x) a z=true then (l ++ x,a,z,0) else (l,n,s,4))) else (l,n,s,2))):=by
 have hc:=impl_copyLog_eq l n s (by omega)
 refine Ev.step (fun k=>by simp only [impl_extend.j0];rfl) ?_
 cases hf with
 | true=>exact Ev.pos rfl (Ev.bind (Ev.const hc) (Ev.now _))
 | false =>
  refine Ev.neg (by simp) (Ev.bind (impl_IsSigned_ev t a z ht) ?_)
  rw [if_neg (by simp)]
  by_cases h1:hasHead t a z=true
  ·rw [if_pos h1]
   refine Ev.pos h1 ?_
   by_cases h2:x.length=0
   ·rw [if_pos h2]
    exact Ev.pos (by omega) (Ev.bind (Ev.const hc) (Ev.now _))
   ·rw [if_neg h2]
    refine Ev.neg (by omega) (Ev.bind (concat_ev l x hl (by omega)) (Ev.bind (impl_HeadOf_ev (l ++ x) hs) ?_))
    rw [ne_head,head_sym]
    by_cases h3:isHead (l ++ x) a z=true
    ·rw [if_pos h3]
     exact Ev.neg (by unfold isHead at h3;rw [h3];simp) (Ev.now _)
    ·rw [if_neg h3]
     exact Ev.pos (by unfold isHead at h3;rw [Bool.eq_false_iff.mpr h3];rfl) (Ev.bind (Ev.const hc) (Ev.now _))
  ·rw [if_neg h1]
   exact Ev.neg h1 (Ev.bind (Ev.const hc) (Ev.now _))
theorem ext_form (t:List IHead) (l:List ByteArray) (n:Int) (s:ByteArray) (a:Int) (z:ByteArray) (x:List ByteArray) :
  extOf t l n s a z x=(if headOk a z=true then (if (a != ((l.length+x.length:Nat):Int))=true then (l,n,s,1) else (if hasHead t a z=true then (if x.length=0 then (l,n,s,3) else (if isHead (l ++ x) a z=true then (l ++ x,a,z,0) else (l,n,s,4))) else (l,n,s,2))) else (l,n,s,1)):=by
 unfold extOf
 cases headOk a z <;> by_cases h:a=((l.length+x.length:Nat):Int) <;> simp [h]
theorem spec_Extend_ev (t:List IHead) (l:List ByteArray) (n:Int) (s:ByteArray) (a:Int) (z:ByteArray) (x:List ByteArray) (ht:t.length≤9223372036854775807) (hs:∀ y ∈ l ++ x,y.size≤bigB) (hl:l.length+x.length≤1000000000) :
  Ev (fun k=>spec_Extend.f k l n s t a z x) (extendOf t l n s a z x):=by
 have hs0:∀ y ∈ l,y.size≤bigB:=fun y hy=>hs y (List.mem_append_left _ hy)
 unfold spec_Extend.f extendOf
 rw [spec_l11Copy_eq l n s (by omega)]
 simp only [Option.bind_some,List.length_nil,List.nil_append,List.length_append,Nat.zero_add]
 refine Ev.pos (by omega) (Ev.pos (by omega) (Ev.bind (spec_LogOk_ev l n s hs0) ?_))
 by_cases h0:logOk l n s=true
 ·rw [if_pos h0,ext_form]
  refine Ev.pos h0 (Ev.bind (Ev.const (spec_HeadOk_eq a z)) ?_)
  by_cases h1:headOk a z=true
  ·rw [if_pos h1]
   exact Ev.pos h1 (extend_j0S t l n s a z x ht hs _)
  ·rw [if_neg h1]
   exact Ev.neg h1 (Ev.one (extend_j0S t l n s a z x ht hs true) (by rw [if_pos rfl]))
 ·rw [if_neg h0]
  exact Ev.neg h0 (Ev.one (extend_j0S t l n s a z x ht hs true) (by rw [if_pos rfl]))
theorem impl_extend_ev (t:List IHead) (l:List ByteArray) (n:Int) (s:ByteArray) (a:Int) (z:ByteArray) (x:List ByteArray) (ht:t.length≤9223372036854775807) (hs:∀ y ∈ l ++ x,y.size≤bigB) (hl:l.length+x.length≤1000000000) :
  Ev (fun k=>impl_extend.f k l n s t a z x) (extOf t l n s a z x):=by
 unfold impl_extend.f
 rw [ext_form]
 refine Ev.bind (Ev.const (impl_HeadOk_eq a z)) ?_
 by_cases h1:headOk a z=true
 ·rw [if_pos h1,w64 (x:=(l.length:Int) + (x.length:Int)) (by omega) (by omega)]
  exact Ev.pos h1 (extend_j0I t l n s a z x ht hs hl _)
 ·rw [if_neg h1]
  exact Ev.neg h1 (Ev.one (extend_j0I t l n s a z x ht hs hl true) (by rw [if_pos rfl]))
theorem spec_LogNew_ev:Ev (fun k=>spec_LogNew.f k) (([]:List ByteArray),(headOf []).1,(headOf []).2):=by
 unfold spec_LogNew.f
 exact Ev.bind (spec_HeadOf_ev [] (by simp)) (Ev.now _)
theorem impl_LogNew_ev:Ev (fun k=>impl_LogNew.f k) (([]:List ByteArray),(headOf []).1,(headOf []).2):=by
 unfold impl_LogNew.f
 exact Ev.bind (impl_HeadOf_ev [] (by simp)) (Ev.now _)
theorem spec_StoreNew_ev:Ev (fun k=>spec_StoreNew.f k) (([]:List ByteArray),(headOf []).1,(headOf []).2,([]:List Int),(0:Int)):=by
 unfold spec_StoreNew.f
 exact Ev.bind spec_LogNew_ev (Ev.now _)
theorem impl_StoreNew_ev:Ev (fun k=>impl_StoreNew.f k) (([]:List ByteArray),(headOf []).1,(headOf []).2,([]:List Int),(0:Int)):=by
 unfold impl_StoreNew.f
 exact Ev.bind impl_LogNew_ev (Ev.now _)
def Good (t:List IHead) (l:List ByteArray) (N:Nat) (s:ByteArray) (x:List ByteArray):Prop:=headOk (N:Int) s=true∧hasHead t (N:Int) s=true∧isHead (l ++ x) (N:Int) s=true∧N=l.length+x.length
inductive Opened (t:List IHead):List ByteArray->List Int->List ByteArray->List Int->Nat->Prop
 | stop {l:List ByteArray} {b:List Int} (h:∀ N s x r,b=commitB N s x ++ r->headOk (N:Int) s=true->1≤x.length->x.length≤200->(∀ y ∈ x,y.size≤1000000000)->¬ Good t l N s x):Opened t l b l [] 0
 | step {l:List ByteArray} {r:List Int} {L:List ByteArray} {m:List Int} {c N:Nat} {s:ByteArray} {x:List ByteArray} (hk:headOk (N:Int) s=true) (h1:1≤x.length) (h2:x.length≤200) (hs:∀ y ∈ x,y.size≤1000000000) (hg:Good t l N s x) (k:Opened t (l ++ x) r L m c):Opened t l (commitB N s x ++ r) L (commitB N s x ++ m) (c+1)
theorem ext_good {t:List IHead} {l:List ByteArray} {n:Int} {z:ByteArray} {N:Nat} {s:ByteArray} {x:List ByteArray} (h1:1≤x.length) (hg:Good t l N s x):extOf t l n z (N:Int) s x=(l ++ x,(N:Int),s,0):=by
 obtain ⟨g1,g2,g3,g4⟩:=hg
 unfold extOf
 have e:((N:Int) == ((l.length+x.length:Nat):Int))=true:=by rw [g4];exact beq_self_eq_true _
 rw [if_pos (by rw [g1,e];rfl),if_pos g2,if_neg (by omega),if_pos g3]
theorem ext_bad {t:List IHead} {l:List ByteArray} (n:Int) (z:ByteArray) {N:Nat} {s:ByteArray} {x:List ByteArray} (hg:¬ Good t l N s x):∃ c,extOf t l n z (N:Int) s x=(l,n,z,c)∧c ≠ 0:=by
 unfold extOf
 by_cases h0:(headOk (N:Int) s && ((N:Int) == ((l.length+x.length:Nat):Int)))=true
 ·rw [if_pos h0]
  by_cases h1:hasHead t (N:Int) s=true
  ·rw [if_pos h1]
   by_cases h2:x.length=0
   ·rw [if_pos h2]
    exact ⟨3,rfl,by decide⟩
   ·rw [if_neg h2]
    by_cases h3:isHead (l ++ x) (N:Int) s=true
    ·rw [Bool.and_eq_true] at h0
     exact absurd ⟨h0.1,h1,h3,by have:=eq_of_beq h0.2;omega⟩ hg
    ·rw [if_neg h3]
     exact ⟨4,rfl,by decide⟩
  ·rw [if_neg h1]
   exact ⟨2,rfl,by decide⟩
 ·rw [if_neg h0]
  exact ⟨1,rfl,by decide⟩
theorem headOk_is {n:Int} {s:ByteArray} (h:headOk n s=true):s.size=32∧0≤n∧n≤200:=by
 unfold headOk at h
 by_cases hc:0≤n∧n≤200
 ·rw [if_pos hc] at h
  have:=eq_of_beq h
  omega
 ·rw [if_neg hc] at h
  cases h
theorem logOk_head {l:List ByteArray} (h:l.length≤200):logOk l (headOf l).1 (headOf l).2=true:=by
 unfold logOk
 rw [if_pos (by omega)]
 simp
theorem isHead_is {l:List ByteArray} {a:Int} {z:ByteArray} (h:isHead l a z=true):a=(headOf l).1∧z=(headOf l).2:=by
 unfold isHead at h
 rw [Bool.and_eq_true] at h
 exact ⟨eq_of_beq h.1,bytes_ext (eq_of_beq h.2)⟩
theorem commit_pos (N:Nat) (s:ByteArray) (x:List ByteArray):0 < (commitB N s x).length:=by
 have:=commitB_length N s x
 omega
theorem take_more {b:List Int} {a:Nat} {c r:List Int} (ha:a≤b.length) (h:b.drop a=c ++ r):b.take a ++ c=b.take (a+c.length)∧r=b.drop (a+c.length):=by
 have e:b=b.take a ++ (c ++ r):=by rw [← h,List.take_append_drop]
 have hl:(b.take a).length=a:=by rw [List.length_take];omega
 constructor
 ·have:b.take (a+c.length)=(b.take a ++ (c ++ r)).take (a+c.length):=by rw [← e]
  rw [this,List.take_append,hl,List.take_take,Nat.min_eq_right (by omega),show a+c.length - a=c.length by omega]
  simp
 ·have:b.drop (a+c.length)=(b.drop a).drop c.length:=by rw [List.drop_drop]
  rw [this,h]
  simp
theorem opened_some (t:List IHead):∀ (d:Nat) (l:List ByteArray) (b:List Int),b.length≤d->∃ L m c,Opened t l b L m c:=by
 intro d
 induction d with
 | zero =>
  intro l b hb
  refine ⟨l,[],0,.stop (fun N s x r e _ _ _ _ _=>?_)⟩
  have:=commit_pos N s x
  have h2:b.length=(commitB N s x ++ r).length:=by rw [← e]
  rw [List.length_append] at h2
  omega
 | succ d ih =>
  intro l b hb
  by_cases h:∃ N s x r,b=commitB N s x ++ r∧headOk (N:Int) s=true∧1≤x.length∧x.length≤200∧(∀ y ∈ x,y.size≤1000000000)∧Good t l N s x
  ·obtain ⟨N,s,x,r,rfl,h1,h2,h3,h4,h5⟩:=h
   have:=commit_pos N s x
   rw [List.length_append] at hb
   obtain ⟨L,m,c,o⟩:=ih (l ++ x) r (by omega)
   exact ⟨L,_,_,.step h1 h2 h3 h4 h5 o⟩
  ·exact ⟨l,[],0,.stop (fun N s x r e h1 h2 h3 h4 h5=>h ⟨N,s,x,r,e,h1,h2,h3,h4,h5⟩)⟩
def firstB (b:List Int):List Int:=b.take 60000
theorem read_at {b:List Int} (hb:InB b) (hl:b.length≤60000) {a N:Nat} {s:ByteArray} {x:List ByteArray} {r:List Int} (ha:a≤b.length) (e:b.drop a=commitB N s x ++ r) (hk:headOk (N:Int) s=true) (hx1:1≤x.length) (hx2:x.length≤200) (hsm:∀ y ∈ x,y.size≤1000000000) :
  Ev (fun q=>impl_GetCommit.f q b (a:Int)) ((N:Int),s,x,((a+(commitB N s x).length:Nat):Int),true):=by
 obtain ⟨n,s',x',nx,ok',f3,_,c1,c2⟩:=getCommitI b hb (by omega) (a:Int) (by omega) (by omega)
 cases hok:ok' with
 | false=>exact absurd ((c2 hok).2.2.2.2 a N s x r rfl e hk hx1 hx2 hsm) (by simp)
 | true =>
  obtain ⟨a',N',g1,rfl,g2,g3,g4,g5,g6⟩:=c1 hok
  have ea:a'=a:=by omega
  subst ea
  obtain ⟨rfl,rfl,rfl,_⟩:=commitB_inj (e.symm.trans g4)
  rw [hok,g5] at f3
  exact f3
theorem good_few {t:List IHead} {l:List ByteArray} {N:Nat} {s:ByteArray} {x:List ByteArray} (hg:Good t l N s x):(l ++ x).length≤200:=by
 have h1:=headOk_is hg.1
 have h2:=hg.2.2.2
 rw [List.length_append]
 omega
theorem replay_opened (t:List IHead) (b:List Int) (hb:InB b) (hl:b.length≤60000) (T:List ByteArray) (N0:Int) (S0:ByteArray) (U:Int) {l:List ByteArray} {bs:List Int} {L:List ByteArray} {m:List Int} {c:Nat} (o:Opened t l bs L m c) :
  m=bs->L=T->∀ a:Nat,bs=b.drop a->a≤b.length->l.length≤200->(∀ x ∈ l,x.size≤bigB)->Ev (fun k=>impl_StoreOk.l0 k l (a:Int) T N0 S0 b U) true:=by
 induction o with
 | @stop l bs h =>
  intro hm hT a e ha h1 h2
  have hz:(b.drop a).length=0:=by rw [← e,← hm];rfl
  rw [List.length_drop] at hz
  refine Ev.step (fun k=>by simp only [impl_StoreOk.l0];rfl) ?_
  refine Ev.neg (by omega) (Ev.bind (impl_same_ev l T (by omega)) ?_)
  rw [decide_eq_true hT]
  exact Ev.now _
 | @step l r L m c N s x hk hx1 hx2 hsm hg o ih =>
  intro hm hT a e ha h1 h2
  obtain ⟨e1,e2⟩:=take_more ha e.symm
  have hlen:=commit_pos N s x
  have hdl:(b.drop a).length=b.length - a:=List.length_drop
  have hcl:(commitB N s x).length≤b.length - a:=by
   rw [← hdl,← e,List.length_append]
   omega
  have w1:=commitB_length N s x
  have w2:=bodyB_ge N s x
  have htx:∀ y ∈ x,y.size≤bigB:=fun y hy=>by
   have w3:=total_mem hy
   unfold bigB
   omega
  have hfew:=good_few hg
  have hgh:=hg.2.2.1
  unfold isHead at hgh
  have hi:=ih (List.append_cancel_left hm) hT (a+(commitB N s x).length) e2 (by omega) hfew (sizes_app h2 htx)
  refine Ev.step (fun k=>by simp only [impl_StoreOk.l0];rfl) ?_
  refine Ev.pos (by omega) (Ev.bind (read_at hb hl ha e.symm hk hx1 hx2 hsm) ?_)
  simp only
  refine Ev.pos (by rw [List.length_append] at hfew;omega) ?_
  simp only [Option.bind_some]
  refine Ev.pos trivial (Ev.bind (impl_HeadOf_ev (l ++ x) (sizes_app h2 htx)) (Ev.neg ?_ hi))
  rw [ne_head,hgh]
  simp
theorem opened_sizes {t:List IHead} {l:List ByteArray} {bs:List Int} {L:List ByteArray} {m:List Int} {c:Nat} (o:Opened t l bs L m c):bs.length≤60000->l.length≤200->(∀ x ∈ l,x.size≤bigB)->L.length≤200∧(∀ x ∈ L,x.size≤bigB):=by
 induction o with
 | stop h=>exact fun _ h1 h2=>⟨h1,h2⟩
 | @step l r L m c N s x hk hx1 hx2 hsm hg o ih =>
  intro h0 h1 h2
  rw [List.length_append] at h0
  have w1:=commitB_length N s x
  have w2:=bodyB_ge N s x
  exact ih (by omega) (good_few hg) (sizes_app h2 (fun y hy=>by
   have w3:=total_mem hy
   unfold bigB
   omega))
theorem storeOk_opened (t:List IHead) (b:List Int) (hb:InB b) (hl:b.length≤60000) {L:List ByteArray} {c:Nat} (o:Opened t [] b L b c) (u:Int) (h0:0≤u) (h1:u≤b.length):Ev (fun k=>impl_StoreOk.f k L (headOf L).1 (headOf L).2 b u) true:=by
 obtain ⟨hL,hs⟩:=opened_sizes o hl (by simp) (by simp)
 unfold impl_StoreOk.f
 refine Ev.bind (impl_LogOk_ev L _ _ hs) (Ev.pos (logOk_head hL) (Ev.neg (by omega) (Ev.bind (Ev.const (impl_in_eq _ _ _)) ?_)))
 rw [decide_eq_true ⟨h0,h1⟩]
 refine Ev.step (fun k=>by simp only [impl_StoreOk.j0];rfl) ?_
 exact Ev.neg (by simp) (replay_opened t b hb hl L _ _ u o rfl rfl 0 rfl (by omega) (by simp) (by simp))
theorem opened_nil (t:List IHead) (l:List ByteArray):Opened t l [] l [] 0:=.stop (fun N s x r e _ _ _ _ _=>by
 have:=commit_pos N s x
 have h2:([]:List Int).length=(commitB N s x ++ r).length:=by rw [← e]
 rw [List.length_append,List.length_nil] at h2
 omega)
theorem opened_self {t:List IHead} {l:List ByteArray} {bs:List Int} {L:List ByteArray} {m:List Int} {c:Nat} (o:Opened t l bs L m c):Opened t l m L m c:=by
 induction o with
 | stop h=>exact opened_nil t _
 | step hk h1 h2 hs hg _ ih=>exact .step hk h1 h2 hs hg ih
theorem opened_more {t:List IHead} {l:List ByteArray} {b:List Int} {L:List ByteArray} {m:List Int} {c:Nat} (o:Opened t l b L m c):m=b->∀ {N:Nat} {s:ByteArray} {x:List ByteArray},1≤x.length->x.length≤200->(∀ y ∈ x,y.size≤1000000000)->Good t L N s x->Opened t l (b ++ commitB N s x) (L ++ x) (b ++ commitB N s x) (c+1):=by
 induction o with
 | @stop l bs h =>
  intro hm N s x h1 h2 h3 hg
  subst hm
  have:=Opened.step hg.1 h1 h2 h3 hg (opened_nil t (l ++ x))
  rw [List.append_nil] at this
  rw [List.nil_append]
  exact this
 | @step l r L m c N' s' x' hk hx1 hx2 hsm hg' o ih =>
  intro hm N s x h1 h2 h3 hg
  have e:=List.append_cancel_left hm
  have:=Opened.step hk hx1 hx2 hsm hg' (ih e h1 h2 h3 hg)
  rw [← List.append_assoc] at this
  exact this
def Drawer (s:List Int) (i:Int):Prop:=0≤i∧i≤(s.length:Int)∧s.length≤1048576
theorem mask255 (y:Int):0≤Go.bits .and .i64 y 255∧Go.bits .and .i64 y 255≤255:=by
 have h:(BitVec.ofInt 64 y &&& BitVec.ofInt 64 255).toNat≤255:=by
  rw [BitVec.toNat_and]
  exact Nat.le_trans Nat.and_le_right (by decide)
 have e:Go.bits .and .i64 y 255=IntKind.i64.wrap ((BitVec.ofInt 64 y &&& BitVec.ofInt 64 255).toNat:Int):=rfl
 generalize (BitVec.ofInt 64 y &&& BitVec.ofInt 64 255).toNat=m at h e
 rw [e,wraps63 _ (Int.natCast_nonneg _) (by omega)]
 omega
theorem l1Byte_ok {s:List Int} {i:Int} (h:Int) (hd:Drawer s i):∃ b i' h',spec_l1Byte.f s i h=some (b,i',h')∧0≤b∧b≤255∧Drawer s i':=by
 obtain ⟨h0,h1,h2⟩:=hd
 unfold spec_l1Byte.f
 by_cases hc:i < (s.length:Int)
 ·rw [if_pos hc,if_pos h0]
  exact ⟨_,_,_,rfl,(mask255 _).1,(mask255 _).2,by rw [w64 (by omega) (by omega)];omega,by rw [w64 (by omega) (by omega)];omega,h2⟩
 ·rw [if_neg hc]
  exact ⟨_,_,_,rfl,(mask255 _).1,(mask255 _).2,h0,h1,h2⟩
theorem l1Below_ok {s:List Int} {i:Int} (h n:Int) (hd:Drawer s i) (hn:1≤n) (hn2:n≤4294967296):∃ b i' h',spec_l1Below.f s i h n=some (b,i',h')∧0≤b∧b < n∧Drawer s i':=by
 unfold spec_l1Below.f
 rw [if_neg (by omega)]
 obtain ⟨b,i1,h1,e1,b0,b1,d1⟩:=l1Byte_ok h hd
 by_cases hc:n≤256
 ·rw [if_pos hc,e1]
  simp only [Option.bind_some]
  rw [if_neg (by omega)]
  refine ⟨_,_,_,rfl,?_,?_,d1⟩
  ·rw [Int.tmod_eq_emod_of_nonneg b0]
   exact Int.emod_nonneg _ (by omega)
  ·rw [Int.tmod_eq_emod_of_nonneg b0]
   exact Int.emod_lt_of_pos _ (by omega)
 ·obtain ⟨b',i2,h2,e2,b0',b1',d2⟩:=l1Byte_ok h1 d1
  obtain ⟨b'',i3,h3,e3,b0'',b1'',d3⟩:=l1Byte_ok h2 d2
  rw [if_neg hc,e1]
  simp only [Option.bind_some]
  rw [e2]
  simp only [Option.bind_some]
  rw [e3]
  simp only [Option.bind_some]
  rw [if_neg (by omega)]
  have e:wrap64 ((wrap64 ((wrap64 (b * 65536)) + (wrap64 (b' * 256)))) + b'')=b * 65536+b' * 256+b'':=by
   rw [w64 (x:=b * 65536) (by omega) (by omega),w64 (x:=b' * 256) (by omega) (by omega),w64 (x:=b * 65536+b' * 256) (by omega) (by omega),w64 (by omega) (by omega)]
  rw [e]
  refine ⟨_,_,_,rfl,?_,?_,d3⟩
  ·rw [Int.tmod_eq_emod_of_nonneg (by omega)]
   exact Int.emod_nonneg _ (by omega)
  ·rw [Int.tmod_eq_emod_of_nonneg (by omega)]
   exact Int.emod_lt_of_pos _ (by omega)
theorem l1Int_ok {s:List Int} {i:Int} (h:Int) (l:List Int) (hd:Drawer s i) (hn:1≤l.length) (hn2:l.length≤4294967296):∃ x i' h',spec_l1Int.f s i h l=some (x,i',h')∧x ∈ l∧Drawer s i':=by
 obtain ⟨b,i1,h1,e1,b0,b1,d1⟩:=l1Below_ok h (l.length:Int) hd (by omega) (by omega)
 unfold spec_l1Int.f
 rw [e1]
 simp only [Option.bind_some]
 rw [if_pos b0,if_pos b1]
 obtain ⟨x,hx⟩:=get_some (l:=l) (i:=b.toNat) (by omega)
 refine ⟨_,_,_,rfl,?_,d1⟩
 have:rd l b=x:=by
  unfold rd
  simp [List.getD_eq_getElem?_getD,hx]
 rw [this]
 exact List.mem_of_getElem? hx
theorem l1Str_ok {s:List Int} {i:Int} (h:Int) (l:List ByteArray) (hd:Drawer s i) (hn:1≤l.length) (hn2:l.length≤4294967296):∃ x i' h',spec_l1Str.f s i h l=some (x,i',h')∧x ∈ l∧Drawer s i':=by
 obtain ⟨b,i1,h1,e1,b0,b1,d1⟩:=l1Below_ok h (l.length:Int) hd (by omega) (by omega)
 unfold spec_l1Str.f
 rw [e1]
 simp only [Option.bind_some]
 rw [if_pos b0,if_pos b1]
 obtain ⟨x,hx⟩:=get_some (l:=l) (i:=b.toNat) (by omega)
 refine ⟨_,_,_,rfl,?_,d1⟩
 have:rdOf ByteArray.empty l b=x:=by
  unfold rdOf
  simp [List.getD_eq_getElem?_getD,hx]
 rw [this]
 exact List.mem_of_getElem? hx
theorem l1New_ev (l:List Int) (hl:l.length≤1048576):∃ h,Ev (fun k=>spec_l1New.f k l) (l,0,h):=by
 have main:∀ (d:Nat) (i:Nat) (x:Int),i+d=l.length->∃ h,Ev (fun k=>spec_l1New.l0 k l x (i:Int)) (l,0,h):=by
  intro d
  induction d with
  | zero =>
   intro i x hi
   refine ⟨x,Ev.step (f:=fun _=>some (l,0,x)) (fun k=>?_) (Ev.now _)⟩
   simp only [spec_l1New.l0]
   rw [if_neg (by omega)]
  | succ d ih =>
   intro i x hi
   by_cases hc:(i:Int) < 4000
   ·obtain ⟨h,e⟩:=ih (i+1) (Go.bits .and .i64 (wrap64 ((wrap64 ((wrap64 (x * 137)) + (wrap64 (rd l i)))) + 11)) 1073741823) (by omega)
    refine ⟨h,Ev.step (fun k=>?_) e⟩
    simp only [spec_l1New.l0]
    rw [if_pos (by omega),if_pos hc,if_pos (by omega),w64 (x:=(i:Int) + 1) (by omega) (by omega)]
    rfl
   ·refine ⟨x,Ev.step (f:=fun _=>some (l,0,x)) (fun k=>?_) (Ev.now _)⟩
    simp only [spec_l1New.l0]
    rw [if_pos (by omega),if_neg hc]
 exact main l.length 0 (wrap64 (372372+(l.length:Int))) (by omega)
theorem Drawer.new {l:List Int} (hl:l.length≤1048576):Drawer l 0:=⟨by omega,by omega,hl⟩
theorem l6List_ev {s:List Int} {i:Int} (h:Int) (hd:Drawer s i):∃ l i' h',Ev (fun k=>spec_l6List.f k s i h) (l,i',h')∧Drawer s i'∧l.length≤8∧∀ x ∈ l,x.size≤3:=by
 obtain ⟨n,i1,h1,e1,hn,d1⟩:=l1Int_ok h ([0,1,2,3,4,5,7,8,6]:List Int) hd (by decide) (by decide)
 have main:∀ (n:Nat) (acc:List ByteArray) (i h:Int),Drawer s i->acc.length+n≤8->(∀ x ∈ acc,x.size≤3)->∃ l i' h',Ev (fun k=>spec_l6List.l0 k acc (n:Int) s i h) (l,i',h')∧Drawer s i'∧l.length≤8∧∀ x ∈ l,x.size≤3:=by
  intro n
  induction n with
  | zero =>
   intro acc i h hd ha hx
   refine ⟨acc,i,h,Ev.step (f:=fun _=>some (acc,i,h)) (fun k=>?_) (Ev.now _),hd,by omega,hx⟩
   simp only [spec_l6List.l0]
   rw [if_neg (by omega)]
  | succ n ih =>
   intro acc i h hd ha hx
   obtain ⟨t,i2,h2,e2,hs,d2⟩:=l1Str_ok h ([(⟨#[]⟩:ByteArray),(⟨#[97]⟩:ByteArray),(⟨#[98]⟩:ByteArray),(⟨#[120,121,122]⟩:ByteArray)]:List ByteArray) hd (by simp) (by simp)
   have hss:t.size≤3:=by
    simp only [List.mem_cons,List.not_mem_nil,or_false] at hs
    rcases hs with rfl|rfl|rfl|rfl <;> decide
   obtain ⟨l,i3,h3,e3,d3,hl3,hx3⟩:=ih (acc ++ [t]) i2 h2 d2 (by simp;omega) (fun x hm=>by
    rcases List.mem_append.1 hm with hm|hm
    ·exact hx x hm
    ·rw [List.mem_singleton.1 hm]
     exact hss)
   refine ⟨l,i3,h3,Ev.step (fun k=>?_) e3,d3,hl3,hx3⟩
   simp only [spec_l6List.l0]
   rw [if_pos (by omega),e2]
   simp only [Option.bind_some]
   rw [if_pos (by omega),w64 (x:=((n+1:Nat):Int) - 1) (by omega) (by omega)]
   congr 1
   omega
 have hn2:0≤n∧n≤8:=by
  simp only [List.mem_cons,List.not_mem_nil,or_false] at hn
  omega
 obtain ⟨l,i2,h2,e2,d2,hl2,hx2⟩:=main n.toNat [] i1 h1 d1 (by simp;omega) (by simp)
 rw [show ((n.toNat:Nat):Int)=n from by omega] at e2
 refine ⟨l,i2,h2,?_,d2,hl2,hx2⟩
 unfold spec_l6List.f
 rw [e1]
 exact e2
theorem l1Once_ok {s:List Int} {i:Int} (h n:Int) (hd:Drawer s i) (hn:1≤n) (hn2:n≤4294967296):∃ b i' h',spec_l1Once.f s i h n=some (b,i',h')∧Drawer s i':=by
 obtain ⟨b,i1,h1,e1,_,_,d1⟩:=l1Below_ok h n hd hn hn2
 unfold spec_l1Once.f
 rw [e1]
 exact ⟨_,_,_,rfl,d1⟩
def HeadIn (l:List ByteArray) (x:S37):Prop:=∃ n,n≤l.length∧x=⟨(headOf (l.take n)).1,(headOf (l.take n)).2⟩
def lastHead (l:List ByteArray):S37:=⟨(headOf l).1,(headOf l).2⟩
theorem l10Table_ev {s:List Int} {i:Int} (h:Int) (hd:Drawer s i) (l:List ByteArray) (hl:l.length≤200) (hs:∀ x ∈ l,x.size≤bigB) :
  ∃ T i' h',Ev (fun k=>spec_l10Table.f k s i h l) (T ++ [lastHead l],i',h')∧Drawer s i'∧T.length≤l.length∧∀ x ∈ T,HeadIn l x:=by
 have main:∀ (d n:Nat) (acc:List (S37)) (i h:Int),n+d=l.length->Drawer s i->acc.length≤n->(∀ x ∈ acc,HeadIn l x) →
   ∃ T i' h',Ev (fun k=>spec_l10Table.l0 k l acc (n:Int) s i h) (T ++ [lastHead l],i',h')∧Drawer s i'∧T.length≤l.length∧∀ x ∈ T,HeadIn l x:=by
  intro d
  induction d with
  | zero =>
   intro n acc i h hn hd ha hx
   have hnl:n=l.length:=by omega
   subst hnl
   obtain ⟨b,i1,h1,e1,d1⟩:=l1Once_ok h 3 hd (by decide) (by decide)
   have nx:wrap64 ((l.length:Int) + 1)=((l.length+1:Nat):Int):=by
    rw [w64 (by omega) (by omega)]
    omega
   have hH:=spec_HeadOf_ev (l.take l.length) (mem_take_of hs)
   have fin:Ev (fun k=>spec_l10Table.l0 k l (acc ++ [lastHead l]) ((l.length+1:Nat):Int) s i1 h1) (acc ++ [lastHead l],i1,h1):=by
    refine Ev.step (f:=fun _=>some (acc ++ [lastHead l],i1,h1)) (fun k=>?_) (Ev.now _)
    simp only [spec_l10Table.l0]
    rw [if_neg (by omega)]
   have hl2:(⟨(headOf (l.take l.length)).1,(headOf (l.take l.length)).2⟩:S37)=lastHead l:=by rw [List.take_length];rfl
   refine ⟨acc,i1,h1,?_,d1,by omega,hx⟩
   refine Ev.step (fun k=>by simp only [spec_l10Table.l0];rw [e1]) ?_
   simp only [Option.bind_some]
   rw [nx]
   refine Ev.pos (by omega) ?_
   by_cases hb:b=true
   ·refine Ev.pos hb (Ev.pos trivial (Ev.pos (by omega) (Ev.bind hH (Ev.pos (by omega) ?_))))
    rw [hl2]
    exact fin
   ·refine Ev.neg hb (Ev.pos (by omega) (Ev.bind hH (Ev.pos (by omega) ?_)))
    rw [hl2]
    exact fin
  | succ d ih =>
   intro n acc i h hn hd ha hx
   obtain ⟨b,i1,h1,e1,d1⟩:=l1Once_ok h 3 hd (by decide) (by decide)
   have nx:wrap64 ((n:Int) + 1)=((n+1:Nat):Int):=by
    rw [w64 (by omega) (by omega)]
    omega
   have hH:=spec_HeadOf_ev (l.take n) (mem_take_of hs)
   by_cases hb:b=true
   ·obtain ⟨T,i2,h2,e2,d2,hT,hx2⟩:=ih (n+1) acc i1 h1 (by omega) d1 (by omega) hx
    refine ⟨T,i2,h2,?_,d2,hT,hx2⟩
    refine Ev.step (fun k=>by simp only [spec_l10Table.l0];rw [e1]) ?_
    simp only [Option.bind_some]
    rw [nx]
    exact Ev.pos (by omega) (Ev.pos hb (Ev.neg (by omega) e2))
   ·obtain ⟨T,i2,h2,e2,d2,hT,hx2⟩:=ih (n+1) (acc ++ [⟨(headOf (l.take n)).1,(headOf (l.take n)).2⟩]) i1 h1 (by omega) d1 (by simp;omega) (fun x hm=>by
     rcases List.mem_append.1 hm with hm|hm
     ·exact hx x hm
     ·exact ⟨n,by omega,List.mem_singleton.1 hm⟩)
    refine ⟨T,i2,h2,?_,d2,hT,hx2⟩
    refine Ev.step (fun k=>by simp only [spec_l10Table.l0];rw [e1]) ?_
    simp only [Option.bind_some]
    rw [nx]
    exact Ev.pos (by omega) (Ev.neg hb (Ev.pos (by omega) (Ev.bind hH (Ev.pos (by omega) e2))))
 exact main l.length 0 [] i h (by omega) hd (by simp) (by simp)
theorem few_total {l:List ByteArray} {n:Nat} (hx:∀ x ∈ l,x.size≤n):total l≤n * (l.length:Int):=by
 induction l with
 | nil=>simp [total]
 | cons a l ih =>
  have h1:=hx a (by simp)
  have h2:=ih (fun x hm=>hx x (by simp [hm]))
  rw [total_cons]
  simp only [List.length_cons]
  have:(n:Int) * ((l.length+1:Nat):Int)=n * (l.length:Int) + n:=by
   rw [Int.natCast_add,Int.mul_add]
   simp
  omega
theorem commit_small9 (N:Nat) {l:List ByteArray} {s:ByteArray} (hN:N≤200) (hl:l.length≤20) (hx:∀ x ∈ l,x.size≤3) (hs:s.size=32):(commitB N s l).length≤1000:=by
 have w1:=commitB_length N s l
 have ht:=few_total hx
 have hm:=manyB_length l (fun x hm=>by have:=hx x hm;omega)
 have n0:=num_five (show N≤1000000000 by omega)
 have n1:=num_five (show l.length≤1000000000 by omega)
 have n2:=num_five (show s.size≤1000000000 by omega)
 have hb:(bodyB N s l).length≤500:=by
  unfold bodyB textsB
  rw [List.length_append,List.length_append,List.length_append,textB_length]
  omega
 have n3:=num_five (show (bodyB N s l).length≤1000000000 by omega)
 omega
theorem specCommit_ev (t:List IHead) (ht:t.length≤9223372036854775807) (l:List ByteArray) (b:List Int) (u:Int) (hl:l.length≤200) (hs:∀ y ∈ l,y.size≤bigB) (hb:b.length≤60000) {x:List ByteArray} (h1:1≤x.length) (h2:(l ++ x).length≤20) (hx:∀ y ∈ x,y.size≤3) :
  (Good t l (l ++ x).length (rootBy leafH (l ++ x)) x∧Ev (fun k=>spec_l12Commit.f k l (headOf l).1 (headOf l).2 b u t ((l ++ x).length:Int) (rootBy leafH (l ++ x)) x) (l ++ x,((l ++ x).length:Int),rootBy leafH (l ++ x),b ++ commitB (l ++ x).length (rootBy leafH (l ++ x)) x,u,0)) ∨
  (∃ q,Ev (fun k=>spec_l12Commit.f k l (headOf l).1 (headOf l).2 b u t ((l ++ x).length:Int) (rootBy leafH (l ++ x)) x) (l,(headOf l).1,(headOf l).2,b,u,q)):=by
 have hxb:∀ y ∈ x,y.size≤bigB:=fun y hy=>by have:=hx y hy;unfold bigB;omega
 have hxl:x.length≤20:=by rw [List.length_append] at h2;omega
 have hsm:=commit_small9 (l ++ x).length (by omega) hxl hx (root_32 (l ++ x))
 have hE:=spec_Extend_ev t l (headOf l).1 (headOf l).2 ((l ++ x).length:Int) (rootBy leafH (l ++ x)) x ht (sizes_app hs hxb) (by omega)
 unfold extendOf at hE
 rw [if_pos (logOk_head hl)] at hE
 have hcp:=spec_l12Copy_eq l (headOf l).1 (headOf l).2 b u (by omega) (by omega)
 by_cases hg:Good t l (l ++ x).length (rootBy leafH (l ++ x)) x
 ·left
  refine ⟨hg,?_⟩
  rw [ext_good h1 hg] at hE
  have htt:=few_total hx
  have hP:=l12Put_val (l ++ x).length (rootBy leafH (l ++ x)) x (by omega) (by rw [root_32];omega) (by omega) (by omega) (fun y hy=>by have:=hx y hy;omega)
  unfold spec_l12Commit.f
  rw [hcp]
  simp only [Option.bind_some]
  exact Ev.bind hE (Ev.pos rfl (Ev.bind hP (Ev.pos (by omega) (Ev.now _))))
 ·right
  obtain ⟨q,hq,hq0⟩:=ext_bad (headOf l).1 (headOf l).2 hg
  rw [hq] at hE
  refine ⟨q,?_⟩
  unfold spec_l12Commit.f
  rw [hcp]
  simp only [Option.bind_some]
  exact Ev.bind hE (Ev.neg hq0 (Ev.now _))
structure Stored (t:List IHead) (all l:List ByteArray) (b:List Int) (u:Int) (d:Nat):Prop where
 opened:∃ c,Opened t [] b l b c
 begins:∃ n,l=all.take n
 sure:0≤u∧u≤b.length
 bytes:InB b
 small:b.length≤1000 * d
theorem sub_w {a b:Nat} (h:a < b) (hb:b≤20):wrap64 ((b:Int) - (a:Int))=((b - a:Nat):Int):=by
 rw [w64 (by omega) (by omega)]
 omega
theorem add_w {a y:Nat} (h:a+1+y≤20):wrap64 (wrap64 ((a:Int) + 1) + (y:Int))=((a+1+y:Nat):Int):=by
 rw [w64 (x:=(a:Int) + 1) (by omega) (by omega),w64 (by omega) (by omega)]
 omega
theorem pred_w {d:Nat} (h:d≤20):wrap64 (((d+1:Nat):Int) - 1)=(d:Int):=by
 rw [w64 (by omega) (by omega)]
 omega
theorem take_cut {all l:List ByteArray} {n m:Nat} (hn:l=all.take n) (hm:l.length≤m):all.take m=l ++ (all.take m).drop l.length:=by
 have hl':all.take l.length=l:=by
  conv=>rhs;rw [hn]
  rw [hn,List.length_take]
  by_cases hc:n≤all.length
  ·rw [Nat.min_eq_left hc]
  ·rw [Nat.min_eq_right (by omega),List.take_of_length_le (show all.length≤n by omega),List.take_length]
 have:(all.take m).take l.length=all.take l.length:=by rw [List.take_take,Nat.min_eq_left hm]
 conv=>lhs;rw [← List.take_append_drop l.length (all.take m)]
 rw [this,hl']
set_option maxHeartbeats 4000000 in
theorem draw_l0 {s:List Int} (all:List ByteArray) (ha:all.length≤20) (hx:∀ y ∈ all,y.size≤3) (t:List IHead) (ht:t.length≤1000):∀ (d e:Nat) (i h:Int) (l:List ByteArray) (b:List Int) (u:Int),d+e≤10->Drawer s i->Stored t all l b u e →
  ∃ l' b' u' i' h',Ev (fun k=>spec_l12Draw.l0 k all t (d:Int) s i h l (headOf l).1 (headOf l).2 b u) (l',(headOf l').1,(headOf l').2,b',u',all,t,i',h')∧Stored t all l' b' u' (d+e)∧Drawer s i':=by
 intro d
 induction d with
 | zero =>
  intro e i h l b u hd hr hS
  refine ⟨l,b,u,i,h,?_,by rw [Nat.zero_add];exact hS,hr⟩
  refine Ev.step (fun k=>by simp only [spec_l12Draw.l0];rfl) ?_
  exact Ev.neg (by omega) (Ev.now _)
 | succ d ih =>
  intro e i h l b u hd hr hS
  obtain ⟨n,hn⟩:=hS.begins
  obtain ⟨c,ho⟩:=hS.opened
  have hll:l.length≤all.length:=by rw [hn,List.length_take];omega
  have hsm:=hS.small
  have hlx:∀ y ∈ l,y.size≤3:=fun y hy=>hx y (by rw [hn] at hy;exact List.mem_of_mem_take hy)
  have hlb:∀ y ∈ l,y.size≤bigB:=fun y hy=>by have:=hlx y hy;unfold bigB;omega
  have d20:d≤20:=by omega
  refine Exists.elim (l1Once_ok h 3 hr (by decide) (by decide)) (fun q0 hq0=>?_)
  by_cases hlt:(l.length:Int) < (all.length:Int)
  ·have hlt2:l.length < all.length:=by omega
   obtain ⟨y,i1,h1,e1,y0,y1,d1⟩:=l1Below_ok h ((all.length - l.length:Nat):Int) hr (by omega) (by omega)
   obtain ⟨y,rfl⟩:=Int.eq_ofNat_of_zero_le y0
   have hm:l.length+1+y≤all.length:=by omega
   have hm20:l.length+1+y≤20:=by omega
   have ecut:=take_cut (m:=l.length+1+y) hn (by omega)
   have ex:∃ x,x=(all.take (l.length+1+y)).drop l.length:=⟨_,rfl⟩
   obtain ⟨x,hxe⟩:=ex
   rw [← hxe] at ecut
   have hxl:x.length=y+1:=by
    rw [hxe,List.length_drop,List.length_take]
    omega
   have hxx:∀ z ∈ x,z.size≤3:=fun z hz=>hx z (by rw [hxe] at hz;exact List.mem_of_mem_take (List.mem_of_mem_drop hz))
   have hcl:(l ++ x).length=l.length+1+y:=by rw [List.length_append];omega
   have hHead:=spec_HeadOf_ev (l ++ x) (sizes_app hlb (fun z hz=>by have:=hxx z hz;unfold bigB;omega))
   rw [headOf_few (by omega)] at hHead
   have step:∀ {L:List ByteArray} {N:Int} {Z:ByteArray} {B:List Int} {q:Int},Ev (fun k=>spec_l12Commit.f k l (headOf l).1 (headOf l).2 b u t ((l ++ x).length:Int) (rootBy leafH (l ++ x)) x) (L,N,Z,B,u,q)->N=(headOf L).1->Z=(headOf L).2->Stored t all L B u (e+1) →
     ∃ l' b' u' i' h',Ev (fun k=>spec_l12Draw.l0 k all t ((d+1:Nat):Int) s i h l (headOf l).1 (headOf l).2 b u) (l',(headOf l').1,(headOf l').2,b',u',all,t,i',h')∧Stored t all l' b' u' (d+1+e)∧Drawer s i':=by
    intro L N Z B q hC hN hZ hSt
    subst hN hZ
    obtain ⟨o,i2,h2,e2,d2⟩:=l1Once_ok h1 3 d1 (by decide) (by decide)
    have fin:∀ u',Stored t all L B u' (e+1)->(o=true->u'=(B.length:Int))->(o=false->u'=u)->∃ l' b' u'' i' h',Ev (fun k=>spec_l12Draw.l0 k all t ((d+1:Nat):Int) s i h l (headOf l).1 (headOf l).2 b u) (l',(headOf l').1,(headOf l').2,b',u'',all,t,i',h')∧Stored t all l' b' u'' (d+1+e)∧Drawer s i':=by
     intro u' hSt' ho1 ho2
     obtain ⟨l',b',u'',i',h',j1,j2,j3⟩:=ih (e+1) i2 h2 L B u' (by omega) d2 hSt'
     refine ⟨l',b',u'',i',h',?_,by rw [show d+1+e=d+(e+1) by omega];exact j2,j3⟩
     refine Ev.step (fun k=>by simp only [spec_l12Draw.l0];rfl) ?_
     rw [sub_w hlt2 ha,pred_w d20]
     refine Ev.pos (by omega) (Ev.pos hlt (Ev.bind (Ev.const e1) ?_))
     simp only
     rw [add_w hm20,Int.toNat_natCast,Int.toNat_natCast,← hxe,ecut]
     rw [hcl] at hHead hC
     refine Ev.pos (by omega) (Ev.pos (by omega) (Ev.bind hHead (Ev.pos (by omega) (Ev.pos (by omega) (Ev.bind hC (Ev.bind (Ev.const e2) ?_))))))
     cases o with
     | true =>
      rw [ho1 rfl] at j1
      exact Ev.pos rfl j1
     | false =>
      rw [ho2 rfl] at j1
      exact Ev.neg (by simp) j1
    cases o with
    | true=>exact fin (B.length:Int) ⟨hSt.opened,hSt.begins,⟨by omega,by omega⟩,hSt.bytes,hSt.small⟩ (fun _=>rfl) (fun h=>nomatch h)
    | false=>exact fin u hSt (fun h=>nomatch h) (fun _=>rfl)
   rcases specCommit_ev t (by omega) l b u (by omega) hlb (by omega) (x:=x) (by omega) (by omega) hxx with ⟨hg,hC⟩|⟨q,hC⟩
   ·have hh:=headOf_few (l:=l ++ x) (by omega)
    refine step hC (by rw [hh]) (by rw [hh]) ?_
    have hcs:=commit_small9 (l ++ x).length (by omega) (l:=x) (by omega) hxx (root_32 (l ++ x))
    refine ⟨⟨_,opened_more ho rfl (by omega) (by omega) (fun z hz=>by have:=hxx z hz;omega) hg⟩,⟨l.length+1+y,ecut.symm⟩,⟨hS.sure.1,by rw [List.length_append];have:=hS.sure.2;omega⟩,inB_app hS.bytes (commitB_inB _ _ _),by rw [List.length_append];omega⟩
   ·exact step hC rfl rfl ⟨hS.opened,hS.begins,hS.sure,hS.bytes,by omega⟩
  ·obtain ⟨i2,h2,e2,d2⟩:=hq0
   have fin:∀ u',Stored t all l b u' (e+1)->(q0=true->u'=(b.length:Int))->(q0=false->u'=u)->∃ l' b' u'' i' h',Ev (fun k=>spec_l12Draw.l0 k all t ((d+1:Nat):Int) s i h l (headOf l).1 (headOf l).2 b u) (l',(headOf l').1,(headOf l').2,b',u'',all,t,i',h')∧Stored t all l' b' u'' (d+1+e)∧Drawer s i':=by
    intro u' hSt' ho1 ho2
    obtain ⟨l',b',u'',i',h',j1,j2,j3⟩:=ih (e+1) i2 h2 l b u' (by omega) d2 hSt'
    refine ⟨l',b',u'',i',h',?_,by rw [show d+1+e=d+(e+1) by omega];exact j2,j3⟩
    refine Ev.step (fun k=>by simp only [spec_l12Draw.l0];rfl) ?_
    rw [pred_w d20]
    refine Ev.pos (by omega) (Ev.neg hlt (Ev.bind (Ev.const e2) ?_))
    cases q0 with
    | true =>
     rw [ho1 rfl] at j1
     exact Ev.pos rfl j1
    | false =>
     rw [ho2 rfl] at j1
     exact Ev.neg (by simp) j1
   cases q0 with
   | true=>exact fin (b.length:Int) ⟨hS.opened,hS.begins,⟨by omega,by omega⟩,hS.bytes,by omega⟩ (fun _=>rfl) (fun h=>nomatch h)
   | false=>exact fin u ⟨hS.opened,hS.begins,hS.sure,hS.bytes,by omega⟩ (fun h=>nomatch h) (fun _=>rfl)
theorem l12Draw_ev {s:List Int} {i:Int} (h:Int) (hd:Drawer s i):∃ l b u all t i' h',Ev (fun k=>spec_l12Draw.f k s i h) (l,(headOf l).1,(headOf l).2,b,u,all,t,i',h')∧Stored t all l b u 3∧Drawer s i'∧all.length≤9∧1≤all.length∧(∀ x ∈ all,x.size≤3)∧t.length≤1000:=by
 obtain ⟨a,i1,h1,e1,d1,ha,hx⟩:=l6List_ev h hd
 have hx2:∀ x ∈ a ++ [(⟨#[113]⟩:ByteArray)],x.size≤3:=fun x hm=>by
  rcases List.mem_append.1 hm with hm|hm
  ·exact hx x hm
  ·rw [List.mem_singleton.1 hm]
   decide
 have hal:(a ++ [(⟨#[113]⟩:ByteArray)]).length=a.length+1:=by simp
 obtain ⟨T,i2,h2,e2,d2,hT,_⟩:=l10Table_ev h1 d1 (a ++ [(⟨#[113]⟩:ByteArray)]) (by omega) (fun x hm=>by have:=hx2 x hm;unfold bigB;omega)
 have hTl:(T ++ [lastHead (a ++ [(⟨#[113]⟩:ByteArray)])]).length=T.length+1:=by simp
 obtain ⟨n,i3,h3,e3,n0,n1,d3⟩:=l1Below_ok h2 4 d2 (by decide) (by decide)
 obtain ⟨n,rfl⟩:=Int.eq_ofNat_of_zero_le n0
 obtain ⟨l',b',u',i',h',j1,j2,j3⟩:=draw_l0 (s:=s) (a ++ [(⟨#[113]⟩:ByteArray)]) (by omega) hx2 (T ++ [lastHead (a ++ [(⟨#[113]⟩:ByteArray)])]) (by omega) n 0 i3 h3 [] [] 0 (by omega) d3 ⟨⟨0,opened_nil _ _⟩,⟨0,rfl⟩,⟨by omega,by simp⟩,by simp [InB],by simp⟩
 refine ⟨l',b',u',_,_,i',h',?_,⟨j2.opened,j2.begins,j2.sure,j2.bytes,by have:=j2.small;omega⟩,j3,by omega,by omega,hx2,by omega⟩
 unfold spec_l12Draw.f
 refine Ev.bind e1 ?_
 simp only
 exact Ev.pos (by omega) (Ev.bind (Ev.now _) (Ev.bind e2 (Ev.bind spec_StoreNew_ev (Ev.bind (Ev.const e3) j1))))
theorem l11Any_ev {s:List Int} {i:Int} (h:Int) (hd:Drawer s i):∃ l n r i' h',Ev (fun k=>spec_l11Any.f k s i h) (l,n,r,i',h')∧Drawer s i'∧l.length≤9∧∀ x ∈ l,x.size≤bigB:=by
 obtain ⟨l,i1,h1,e1,d1,hl,hx⟩:=l6List_ev h hd
 have hb:∀ x ∈ l,x.size≤bigB:=fun x hm=>by
  have:=hx x hm
  unfold bigB
  omega
 have e2:Ev (fun k=>spec_l11Log.f k l) (l,(headOf l).1,(headOf l).2):=by
  unfold spec_l11Log.f
  exact Ev.bind (spec_HeadOf_ev l hb) (Ev.now _)
 obtain ⟨c,i2,h2,e3,_,_,d2⟩:=l1Below_ok h1 10 d1 (by decide) (by decide)
 have main:∀ r,Ev (fun _:Nat=>if c=0 then (if l.length < 8796093022208 then (some ((l ++ [(⟨#[120]⟩:ByteArray)]),(headOf l).1,(headOf l).2,i2,h2)) else (none)) else (if c=1 then (some (l,wrap64 ((headOf l).1+1),(headOf l).2,i2,h2)) else (some (l,(headOf l).1,(headOf l).2,i2,h2)))) r->Ev (fun k=>spec_l11Any.f k s i h) r:=fun r hr=>by
  unfold spec_l11Any.f
  exact Ev.bind e1 (Ev.bind e2 (Ev.bind (Ev.const e3) hr))
 by_cases h0:c=0
 ·refine ⟨_,_,_,_,_,main _ (Ev.pos h0 (Ev.pos (by omega) (Ev.now _))),d2,by simp;omega,fun x hm=>?_⟩
  rcases List.mem_append.1 hm with hm|hm
  ·exact hb x hm
  ·rw [List.mem_singleton.1 hm]
   decide
 ·by_cases h1:c=1
  ·exact ⟨_,_,_,_,_,main _ (Ev.neg h0 (Ev.pos h1 (Ev.now _))),d2,by omega,hb⟩
  ·exact ⟨_,_,_,_,_,main _ (Ev.neg h0 (Ev.neg h1 (Ev.now _))),d2,by omega,hb⟩
def SmallS (l:List ByteArray) (b:List Int):Prop:=l.length≤20∧(∀ x ∈ l,x.size≤bigB)∧InB b∧b.length≤4000
theorem stored_small {t:List IHead} {all l:List ByteArray} {b:List Int} {u:Int} (h:Stored t all l b u 3) (ha:all.length≤9) (hx:∀ x ∈ all,x.size≤3):SmallS l b:=by
 obtain ⟨n,hn⟩:=h.begins
 have:=h.small
 refine ⟨?_,fun x hm=>?_,h.bytes,by omega⟩
 ·rw [hn,List.length_take]
  omega
 ·rw [hn] at hm
  have:=hx x (List.mem_of_mem_take hm)
  unfold bigB
  omega
abbrev StoreT:=List ByteArray × Int × ByteArray × List Int × Int × Int × Int
theorem l12Any_ev {s:List Int} {i:Int} (h:Int) (hd:Drawer s i):∃ r:StoreT,Ev (fun k=>spec_l12Any.f k s i h) r∧SmallS r.1 r.2.2.2.1∧Drawer s r.2.2.2.2.2.1:=by
 obtain ⟨l,b,u,all,t,i1,h1,e1,hS,d1,ha,_,hx,_⟩:=l12Draw_ev h hd
 have hs:=stored_small hS ha hx
 generalize (headOf l).1=n at e1
 generalize (headOf l).2=z at e1
 obtain ⟨c,i2,h2,e2,c0,c1,d2⟩:=l1Below_ok h1 12 d1 (by decide) (by decide)
 unfold spec_l12Any.f
 refine exb e1 (exb (Ev.const e2) ?_)
 simp only
 by_cases k0:c=0
 ·obtain ⟨y,i3,h3,e3,_,d3⟩:=l1Int_ok h2 ([(-1),(b.length:Int),wrap64 ((b.length:Int) + 1)]:List Int) d2 (by simp) (by simp)
  exact exp_ k0 (exb (Ev.const e3) ⟨_,Ev.now _,hs,d3⟩)
 refine exn_ k0 ?_
 by_cases k1:c=1
 ·obtain ⟨s1,s2,s3,s4⟩:=hs
  refine exp_ k1 (exp_ (by omega) ⟨_,Ev.now _,⟨s1,s2,inB_app s3 (fun x hm=>?_),?_⟩,d2⟩)
  ·rw [List.mem_singleton.1 hm]
   decide
  ·obtain ⟨_,_,_,s4⟩:=stored_small hS ha hx
   have:=hS.small
   simp only [List.length_append,List.length_singleton]
   omega
 refine exn_ k1 ?_
 by_cases k2:c=2
 ·obtain ⟨L,N,R,i3,h3,e3,d3,hL,hLs⟩:=l11Any_ev h2 d2
  exact exp_ k2 (exb e3 ⟨_,Ev.now _,⟨by simp only;omega,hLs,hs.2.2.1,hs.2.2.2⟩,d3⟩)
 ·exact exn_ k2 ⟨_,Ev.now _,hs,d2⟩
theorem l10Any_j0 {s:List Int} (A:List IHead) {i:Int} (h:Int) (hd:Drawer s i) (hA:A ≠ []) (hA2:A.length≤900):∃ T i' h',Ev (fun k=>spec_l10Any.j0 k A s i h) (T,i',h')∧Drawer s i'∧T ≠ []∧T.length≤1000:=by
 obtain ⟨b,i1,h1,e1,d1⟩:=l1Once_ok h 6 hd (by decide) (by decide)
 obtain ⟨x,i2,h2,e2,_,d2⟩:=l1Int_ok h1 ([(-1),2,201]:List Int) d1 (by decide) (by decide)
 by_cases hb:b=true
 ·refine ⟨A ++ [⟨x,⟨#[120]⟩⟩],i2,h2,?_,d2,by simp,by simp;omega⟩
  refine Ev.step (fun k=>by simp only [spec_l10Any.j0];rw [e1]) ?_
  simp only [Option.bind_some]
  refine Ev.pos hb ?_
  rw [e2]
  simp only [Option.bind_some]
  exact Ev.pos (by omega) (Ev.now _)
 ·refine ⟨A,i1,h1,?_,d1,hA,by omega⟩
  refine Ev.step (fun k=>by simp only [spec_l10Any.j0];rw [e1]) ?_
  simp only [Option.bind_some]
  exact Ev.neg hb (Ev.now _)
theorem l10Any_ev {s:List Int} {i:Int} (h:Int) (hd:Drawer s i):∃ T i' h',Ev (fun k=>spec_l10Any.f k s i h) (T,i',h')∧Drawer s i'∧T ≠ []∧T.length≤1000:=by
 obtain ⟨l,i1,h1,e1,d1,hl1,hx1⟩:=l6List_ev h hd
 obtain ⟨T,i2,h2,e2,d2,hT,hx2⟩:=l10Table_ev h1 d1 l (by omega) (fun x hx=>by have:=hx1 x hx;unfold bigB;omega)
 obtain ⟨b,i3,h3,e3,d3⟩:=l1Once_ok h2 3 d2 (by decide) (by decide)
 have hlen:(T ++ [lastHead l]).length≤20:=by simp;omega
 unfold spec_l10Any.f
 by_cases hb:b=true
 ·obtain ⟨x,i4,h4,e4,x0,x1,d4⟩:=l1Below_ok h3 4 d3 (by decide) (by decide)
  obtain ⟨y,i5,h5,e5,y0,y1,d5⟩:=l1Below_ok h4 3 d4 (by decide) (by decide)
  obtain ⟨R,i6,h6,e6,d6,r1,r2⟩:=l10Any_j0 ((T ++ [lastHead l]) ++ [⟨x,sha [y % 256]⟩]) h5 d5 (by simp) (by simp;omega)
  refine ⟨R,i6,h6,?_,d6,r1,r2⟩
  refine Ev.bind e1 (Ev.bind e2 ?_)
  simp only
  rw [e3]
  simp only [Option.bind_some]
  refine Ev.pos hb ?_
  rw [e4]
  simp only [Option.bind_some]
  rw [e5]
  simp only [Option.bind_some]
  refine Ev.bind (spec_Digest_ev [y % 256] (by simp) (fun z hz=>by rw [List.mem_singleton.1 hz];omega)) ?_
  exact Ev.pos (by omega) e6
 ·obtain ⟨R,i6,h6,e6,d6,r1,r2⟩:=l10Any_j0 (T ++ [lastHead l]) h3 d3 (by simp) (by omega)
  refine ⟨R,i6,h6,?_,d6,r1,r2⟩
  refine Ev.bind e1 (Ev.bind e2 ?_)
  simp only
  rw [e3]
  simp only [Option.bind_some]
  exact Ev.neg hb e6
abbrev MirrorT:=Int × List ByteArray × Int × ByteArray × List Int × Int × Int × ByteArray × List IHead × List ByteArray × Int × Int
def SmallM (s:List Int) (r:MirrorT):Prop:=SmallS r.2.1 r.2.2.2.2.1∧r.2.2.2.2.2.2.2.2.1.length≤1000∧Drawer s r.2.2.2.2.2.2.2.2.2.2.1
theorem l14Draw_ev {s:List Int} {i:Int} (h:Int) (hd:Drawer s i):∃ r,Ev (fun k=>spec_l14Draw.f k s i h) r∧SmallM s r:=by
 obtain ⟨l,b,u,all,t,i1,h1,e1,hS,d1,ha,_,hx,ht⟩:=l12Draw_ev h hd
 have hs:=stored_small hS ha hx
 generalize (headOf l).1=n at e1
 generalize (headOf l).2=z at e1
 obtain ⟨c,i2,h2,e2,c0,c1,d2⟩:=l1Below_ok h1 4 d1 (by decide) (by decide)
 obtain ⟨q,i3,h3,e3,d3⟩:=l1Once_ok h2 2 d2 (by decide) (by decide)
 unfold spec_l14Draw.f
 refine exb e1 (exb (Ev.const e2) (exb (Ev.const e3) ?_))
 simp only
 by_cases hq:q=true
 ·exact exp_ hq (exb (spec_BestHead_ev t (by omega)) ⟨_,Ev.now _,hs,ht,d3⟩)
 ·exact exn_ hq ⟨_,Ev.now _,hs,ht,d3⟩
theorem l14Any_ev {s:List Int} {i:Int} (h:Int) (hd:Drawer s i):∃ r,Ev (fun k=>spec_l14Any.f k s i h) r∧SmallM s r:=by
 obtain ⟨⟨a1,a2,a3,a4,a5,a6,a7,a8,a9,a10,j,g⟩,e1,s1,s2,d1⟩:=l14Draw_ev h hd
 simp only at s1 s2 d1
 obtain ⟨c,i2,h2,e2,c0,c1,d2⟩:=l1Below_ok g 12 d1 (by decide) (by decide)
 unfold spec_l14Any.f
 refine exb e1 (exb (Ev.const e2) ?_)
 simp only
 by_cases k0:c=0
 ·obtain ⟨y,i3,h3,e3,_,d3⟩:=l1Int_ok h2 ([(-1),21,20]:List Int) d2 (by simp) (by simp)
  exact exp_ k0 (exb (Ev.const e3) ⟨_,Ev.now _,s1,s2,d3⟩)
 refine exn_ k0 ?_
 by_cases k1:c=1
 ·obtain ⟨T,i3,h3,e3,d3,hT,_⟩:=l10Any_ev h2 d2
  have hT2:0 < T.length:=List.length_pos_iff.mpr hT
  exact exp_ k1 (exb e3 (exp_ (by simp only;omega) ⟨_,Ev.now _,s1,s2,d3⟩))
 refine exn_ k1 ?_
 by_cases k2:c=2
 ·obtain ⟨⟨b1,b2,b3,b4,b5,b6,b7⟩,e3,s3,d3⟩:=l12Any_ev h2 d2
  exact exp_ k2 (exb e3 ⟨_,Ev.now _,s3,s2,d3⟩)
 ·exact exn_ k2 ⟨_,Ev.now _,s1,s2,d2⟩
theorem good_more {t t2:List IHead} {l:List ByteArray} {N:Nat} {s:ByteArray} {x:List ByteArray} (h:∀ a z,hasHead t a z=true->hasHead t2 a z=true) (g:Good t l N s x):Good t2 l N s x:=⟨g.1,h _ _ g.2.1,g.2.2.1,g.2.2.2⟩
theorem opened_mono {t t2:List IHead} (h:∀ a z,hasHead t a z=true->hasHead t2 a z=true) {l:List ByteArray} {b:List Int} {L:List ByteArray} {m:List Int} {c:Nat} (o:Opened t l b L m c):m=b->Opened t2 l b L b c:=by
 induction o with
 | @stop l bs hs =>
  intro hm
  subst hm
  exact opened_nil t2 l
 | @step l r L m c N s x hk h1 h2 hs hg o ih =>
  intro hm
  exact .step hk h1 h2 hs (good_more h hg) (ih (List.append_cancel_left hm))
theorem has_cons (y:IHead) (t:List IHead) (a:Int) (z:ByteArray) (h:hasHead t a z=true):hasHead (y :: t) a z=true:=by
 unfold hasHead at h ⊢
 rw [List.any_cons,h,Bool.or_true]
theorem has_head (a:Int) (z:ByteArray) (t:List IHead):hasHead (⟨a,z⟩ :: t) a z=true:=by
 unfold hasHead
 rw [List.any_cons]
 simp
theorem replay_conv (b:List Int) (hb:InB b) (hl:b.length≤60000) (L:List ByteArray) (hL:L.length≤200) (N:Int) (S:ByteArray) (U:Int):∀ (m a:Nat) (T:List ByteArray),b.length - a≤m->a≤b.length->T.length≤200->(∀ x ∈ T,x.size≤bigB)->Ev (fun k=>impl_StoreOk.l0 k T (a:Int) L N S b U) true->∃ t c,Opened t T (b.drop a) L (b.drop a) c:=by
 intro m
 induction m with
 | zero =>
  intro a T h1 h2 h3 h4 hE
  have e0:Ev (fun k=>impl_StoreOk.l0 k T (a:Int) L N S b U) (decide (T=L)):=by
   refine Ev.step (fun k=>by simp only [impl_StoreOk.l0];rfl) ?_
   exact Ev.neg (by omega) (Ev.bind (impl_same_ev T L (by omega)) (Ev.now _))
  have e1:=of_decide_eq_true (ev_uniq e0 hE)
  subst e1
  rw [List.drop_of_length_le (by omega)]
  exact ⟨[],0,opened_nil _ _⟩
 | succ m ih =>
  intro a T h1 h2 h3 h4 hE
  by_cases ha:(a:Int) < (b.length:Int)
  ·obtain ⟨n1,s1,t,nx,ok,e1,ht,c1,c2⟩:=getCommitI b hb (by omega) (a:Int) (by omega) (by omega)
   cases ok with
   | false =>
    have e0:Ev (fun k=>impl_StoreOk.l0 k T (a:Int) L N S b U) false:=by
     refine Ev.step (fun k=>by simp only [impl_StoreOk.l0];rfl) ?_
     refine Ev.pos ha (Ev.bind e1 (Ev.pos (by simp only;omega) ?_))
     simp only [Option.bind_some]
     exact Ev.neg (by simp) (Ev.now _)
    exact absurd (ev_uniq e0 hE) (by simp)
   | true =>
    obtain ⟨a',n',g1,rfl,g3,g4,g5,g6,g7⟩:=c1 rfl
    obtain rfl:a=a':=by omega
    subst g6
    have w1:=commitB_length n' s1 t
    have w2:=bodyB_ge n' s1 t
    have htx:∀ y ∈ t,y.size≤60000:=fun y hy=>by
     have w3:=total_mem hy
     omega
    clear w2 c1 c2
    have htb:∀ y ∈ t,y.size≤bigB:=fun y hy=>by
     have:=htx y hy
     unfold bigB
     omega
    have hsz:=sizes_app h4 htb
    have hI:∀ r,Ev (fun k=>if (!((n':Int) == (headOf (T ++ t)).1) || (!(s1.toList == (headOf (T ++ t)).2.toList)))=true then some false else impl_StoreOk.l0 k (T ++ t) ((a+(commitB n' s1 t).length:Nat):Int) L N S b U) r->Ev (fun k=>impl_StoreOk.l0 k T (a:Int) L N S b U) r:=by
     intro r hr
     refine Ev.step (fun k=>by simp only [impl_StoreOk.l0];rfl) ?_
     refine Ev.pos ha (Ev.bind e1 (Ev.pos (by simp only;omega) ?_))
     simp only [Option.bind_some]
     exact Ev.pos trivial (Ev.bind (impl_HeadOf_ev (T ++ t) hsz) hr)
    by_cases hh:(!((n':Int) == (headOf (T ++ t)).1) || (!(s1.toList == (headOf (T ++ t)).2.toList)))=true
    ·exact absurd (ev_uniq (hI _ (Ev.pos hh (Ev.now _))) hE) (by simp)
    ·by_cases hm:(T ++ t).length≤200
     ·obtain ⟨_,_,_,_,_,_,_,f4⟩:=replay_both b hb (by omega) L hL N S U (b.length - (a+(commitB n' s1 t).length)) (a+(commitB n' s1 t).length) (T ++ t) 0 ⟨#[]⟩ (Nat.le_refl _) g7 hm hsz
      have f5:=ev_uniq (hI _ (Ev.neg hh f4)) hE
      rw [f5] at f4
      obtain ⟨t',c',o⟩:=ih (a+(commitB n' s1 t).length) (T ++ t) (by omega) g7 hm hsz f4
      have hh2:isHead (T ++ t) (n':Int) s1=true:=by
       unfold isHead
       rw [ne_head] at hh
       simpa using hh
      have hn:n'=T.length+t.length:=by
       have q1:=(isHead_is hh2).1
       rw [headOf_few hm,List.length_append] at q1
       simp only at q1
       omega
      refine ⟨⟨(n':Int),s1⟩ :: t',c' + 1,?_⟩
      rw [g5]
      exact .step g3 g4 ht (fun y hy=>by have:=htx y hy;omega) ⟨g3,has_head _ _ _,hh2,hn⟩ (opened_mono (fun a z h=>has_cons _ _ a z h) o rfl)
     ·have f4:=impl_many b hb (by omega) L hL N S U (b.length - (a+(commitB n' s1 t).length)) (a+(commitB n' s1 t).length) (T ++ t) (Nat.le_refl _) g7 (by omega) (by rw [List.length_append];omega) hsz
      exact absurd (ev_uniq (hI _ (Ev.neg hh f4)) hE) (by simp)
  ·have e0:Ev (fun k=>impl_StoreOk.l0 k T (a:Int) L N S b U) (decide (T=L)):=by
    refine Ev.step (fun k=>by simp only [impl_StoreOk.l0];rfl) ?_
    exact Ev.neg (by omega) (Ev.bind (impl_same_ev T L (by omega)) (Ev.now _))
   have e1:=of_decide_eq_true (ev_uniq e0 hE)
   subst e1
   rw [List.drop_of_length_le (by omega)]
   exact ⟨[],0,opened_nil _ _⟩
theorem storeOk_conv (l:List ByteArray) (n:Int) (s:ByteArray) (b:List Int) (u:Int) (hb:InB b) (hs:∀ x ∈ l,x.size≤bigB) (h:Ev (fun k=>impl_StoreOk.f k l n s b u) true) :
  b.length≤60000∧0≤u∧u≤b.length∧n=(headOf l).1∧s=(headOf l).2∧∃ t c,Opened t [] b l b c:=by
 have lI:=impl_LogOk_ev l n s hs
 have jF:∀ r,Ev (fun k=>impl_StoreOk.j0 k true l n s b u) r->r=false:=fun r hr=>by
  have e0:Ev (fun k=>impl_StoreOk.j0 k true l n s b u) false:=by
   refine Ev.step (fun k=>by simp only [impl_StoreOk.j0];rfl) ?_
   exact Ev.pos trivial (Ev.now _)
  exact ev_uniq hr e0
 have jF0:Ev (fun k=>impl_StoreOk.j0 k true l n s b u) false:=by
  refine Ev.step (fun k=>by simp only [impl_StoreOk.j0];rfl) ?_
  exact Ev.pos trivial (Ev.now _)
 by_cases h1:logOk l n s=true
 ·by_cases h2:(b.length:Int) > 60000
  ·have e0:Ev (fun k=>impl_StoreOk.f k l n s b u) false:=by
    unfold impl_StoreOk.f
    exact Ev.bind lI (Ev.pos h1 (Ev.pos h2 jF0))
   exact absurd (ev_uniq e0 h) (by simp)
  ·by_cases h3:0≤u∧u≤(b.length:Int)
   ·have hlo:l.length≤200∧n=(headOf l).1∧s=(headOf l).2:=by
     unfold logOk at h1
     by_cases hc:(l.length:Int)≤200
     ·rw [if_pos hc,Bool.and_eq_true] at h1
      exact ⟨by omega,eq_of_beq h1.1,bytes_ext (eq_of_beq h1.2)⟩
     ·rw [if_neg hc] at h1
      cases h1
    obtain ⟨hL,hn,hz⟩:=hlo
    obtain ⟨_,_,_,_,_,_,_,f4⟩:=replay_both b hb (by omega) l hL n s u b.length 0 [] 0 ⟨#[]⟩ (by omega) (by omega) (by simp) (by simp)
    have e0:∀ r,Ev (fun k=>impl_StoreOk.l0 k [] (0:Int) l n s b u) r->Ev (fun k=>impl_StoreOk.f k l n s b u) r:=fun r hr=>by
     unfold impl_StoreOk.f
     refine Ev.bind lI (Ev.pos h1 (Ev.neg h2 (Ev.bind (Ev.const (impl_in_eq _ _ _)) ?_)))
     rw [decide_eq_true h3]
     refine Ev.step (fun k=>by simp only [impl_StoreOk.j0];rfl) ?_
     exact Ev.neg (by simp) hr
    have f5:=ev_uniq (e0 _ f4) h
    rw [f5] at f4
    obtain ⟨t,c,o⟩:=replay_conv b hb (by omega) l hL n s u b.length 0 [] (by omega) (by omega) (by simp) (by simp) f4
    rw [List.drop_zero] at o
    exact ⟨by omega,h3.1,h3.2,hn,hz,t,c,o⟩
   ·have e0:Ev (fun k=>impl_StoreOk.f k l n s b u) false:=by
     unfold impl_StoreOk.f
     refine Ev.bind lI (Ev.pos h1 (Ev.neg h2 (Ev.bind (Ev.const (impl_in_eq _ _ _)) ?_)))
     rw [decide_eq_false h3]
     exact jF0
    exact absurd (ev_uniq e0 h) (by simp)
 ·have e0:Ev (fun k=>impl_StoreOk.f k l n s b u) false:=by
   unfold impl_StoreOk.f
   exact Ev.bind lI (Ev.neg h1 jF0)
  exact absurd (ev_uniq e0 h) (by simp)
theorem opened_on {t:List IHead} {l:List ByteArray} {b:List Int} {L:List ByteArray} {m:List Int} {c:Nat} (o:Opened t l b L m c):∃ e,L=l ++ e:=by
 induction o with
 | stop h=>exact ⟨[],by simp⟩
 | @step l r L m c N s x hk h1 h2 hs hg o ih =>
  obtain ⟨e,he⟩:=ih
  exact ⟨x ++ e,by rw [he,List.append_assoc]⟩
theorem opened_pre {t:List IHead} {l:List ByteArray} {b:List Int} {L:List ByteArray} {m:List Int} {c:Nat} (o:Opened t l b L m c):∀ {b2:List Int} {L2:List ByteArray} {m2:List Int} {c2:Nat},Opened t l (b ++ b2) L2 m2 c2->∃ e,L2=L ++ e:=by
 induction o with
 | stop h=>exact fun o2=>opened_on o2
 | @step l r L m c N s x hk h1 h2 hs hg o ih =>
  intro b2 L2 m2 c2 o2
  rw [List.append_assoc] at o2
  generalize hb:commitB N s x ++ (r ++ b2)=bb at o2
  cases o2 with
  | stop h=>exact absurd hg (h N s x (r ++ b2) hb.symm hk h1 h2 hs)
  | @step _ r' _ m' c' N' s' x' hk' h1' h2' hs' hg' o2 =>
   obtain ⟨rfl,rfl,rfl,rfl⟩:=commitB_inj hb
   exact ih o2
theorem opened_inB {t:List IHead} {l:List ByteArray} {b:List Int} {L:List ByteArray} {m:List Int} {c:Nat} (o:Opened t l b L m c):InB b->InB m:=by
 induction o with
 | stop h=>exact fun _=>by simp [InB]
 | step hk h1 h2 hs hg o ih=>exact fun h=>inB_app (fun x hx=>h x (List.mem_append_left _ hx)) (ih (fun x hx=>h x (List.mem_append_right _ hx)))
theorem first_take {b:List Int} (n:Nat) (h:b.length≤60000):firstB (b.take n)=b.take n:=by
 unfold firstB
 exact List.take_of_length_le (by rw [List.length_take];omega)
theorem inB_first9 {b:List Int} (n:Nat) (h:InB b):InB (b.take n):=fun x hx=>h x (List.mem_of_mem_take hx)
theorem opened_bytes {t:List IHead} {l:List ByteArray} {b:List Int} {L:List ByteArray} {m:List Int} {c:Nat} (o:Opened t l b L m c):∃ r,b=m ++ r:=by
 induction o with
 | @stop l b h=>exact ⟨b,rfl⟩
 | step hk h1 h2 hs hg o ih =>
  obtain ⟨r,hr⟩:=ih
  exact ⟨r,by rw [List.append_assoc,← hr]⟩
theorem has_left {t t2:List IHead} (a:Int) (z:ByteArray) (h:hasHead t a z=true):hasHead (t ++ t2) a z=true:=by
 unfold hasHead at *
 rw [List.any_append,h]
 rfl
theorem has_right {t t2:List IHead} (a:Int) (z:ByteArray) (h:hasHead t2 a z=true):hasHead (t ++ t2) a z=true:=by
 unfold hasHead at *
 rw [List.any_append,h,Bool.or_true]
theorem opened_begins {t t2:List IHead} {b:List Int} {n:Nat} {L l:List ByteArray} {m:List Int} {c c2:Nat} (o:Opened t [] (b.take n) L m c) (o2:Opened t2 [] b l b c2):∃ e,l=L ++ e:=by
 have k1:=opened_mono (t2:=t ++ t2) (fun a z h=>has_left a z h) (opened_self o) rfl
 have k2:=opened_mono (t2:=t ++ t2) (fun a z h=>has_right a z h) o2 rfl
 obtain ⟨r,hr⟩:=opened_bytes o
 have hb:b=m ++ (r ++ b.drop n):=by rw [← List.append_assoc,← hr,List.take_append_drop]
 rw [hb] at k2
 exact opened_pre k1 k2
def isKnown (t:List IHead) (a:Int) (s:ByteArray):Bool:=(a == (headOf []).1 && (s.toList == (headOf []).2.toList)) || hasHead t a s
theorem spec_Known_ev (t:List IHead) (a:Int) (s:ByteArray) (ht:t.length≤9223372036854775807):Ev (fun k=>spec_l14Known.f k t a s) (isKnown t a s):=by
 unfold spec_l14Known.f isKnown
 refine Ev.bind (spec_HeadOf_ev [] (by simp)) ?_
 by_cases h:(a == (headOf []).1 && (s.toList == (headOf []).2.toList))=true
 ·exact Ev.pos h (Ev.one (Ev.now _) (by rw [h];rfl))
 ·exact Ev.neg h (Ev.bind (spec_IsSigned_ev t a s ht) (Ev.one (Ev.now _) (by rw [Bool.eq_false_iff.mpr h];rfl)))
theorem impl_known_ev (t:List IHead) (a:Int) (s:ByteArray) (ht:t.length≤9223372036854775807):Ev (fun k=>impl_isKnown.f k t a s) (isKnown t a s):=by
 unfold impl_isKnown.f isKnown
 refine Ev.bind (impl_HeadOf_ev [] (by simp)) ?_
 by_cases h:(a == (headOf []).1 && (s.toList == (headOf []).2.toList))=true
 ·exact Ev.pos h (Ev.one (Ev.now _) (by rw [h];rfl))
 ·exact Ev.neg h (Ev.bind (impl_IsSigned_ev t a s ht) (Ev.one (Ev.now _) (by rw [Bool.eq_false_iff.mpr h];rfl)))
theorem isId_eq (i:Int):impl_isId.f i=some (decide (0≤i∧i≤20)):=by
 unfold impl_isId.f
 rw [impl_in_eq]
 rfl
theorem mirrorOk_told (i:Int) (l:List ByteArray) (n:Int) (s:ByteArray) (b:List Int) (u c:Int) (z:ByteArray) (t:List IHead) (hb:InB b) (hl:b.length≤1048576) (hs:∀ x ∈ l,x.size≤bigB) (ht:t.length≤9223372036854775807) :
  ∃ r,Ev (fun k=>spec_MirrorOk.f k i l n s b u c z t) r∧Ev (fun k=>impl_MirrorOk.f k i l n s b u c z t) r∧(r=true->(0≤i∧i≤20)∧headOk c z=true∧isKnown t c z=true∧isKnown t n s=true∧Ev (fun k=>impl_StoreOk.f k l n s b u) true)∧((0≤i∧i≤20)->headOk c z=true->isKnown t c z=true->isKnown t n s=true->Ev (fun k=>impl_StoreOk.f k l n s b u) true->r=true):=by
 obtain ⟨q,q1,q2⟩:=storeOk_both l n s b u hb hl hs
 have k1:=spec_Known_ev t c z ht
 have k2:=impl_known_ev t c z ht
 have k3:=spec_Known_ev t n s ht
 have k4:=impl_known_ev t n s ht
 refine ⟨decide (0≤i∧i≤20) && (headOk c z && (isKnown t c z && (isKnown t n s && q))),?_,?_,fun hr=>?_,fun g1 g2 g3 g4 g5=>?_⟩
 ·unfold spec_MirrorOk.f
  refine Ev.bind (Ev.const (spec_in_eq _ _ _)) ?_
  by_cases h:decide (0≤i∧i≤20)=true
  ·rw [h]
   refine Ev.pos rfl (Ev.bind q1 ?_)
   cases q with
   | false=>exact Ev.neg (by simp) (Ev.one (Ev.now _) (by simp))
   | true =>
    refine Ev.pos rfl (Ev.bind (Ev.const (spec_HeadOk_eq c z)) ?_)
    by_cases h2:headOk c z=true
    ·rw [h2]
     refine Ev.pos rfl (Ev.bind k1 ?_)
     by_cases h3:isKnown t c z=true
     ·rw [h3]
      exact Ev.pos rfl (Ev.bind k3 (Ev.one (Ev.now _) (by simp)))
     ·rw [Bool.eq_false_iff.mpr h3]
      exact Ev.neg (by simp) (Ev.one (Ev.now _) (by simp))
    ·rw [Bool.eq_false_iff.mpr h2]
     exact Ev.neg (by simp) (Ev.one (Ev.now _) (by simp))
  ·rw [Bool.eq_false_iff.mpr h]
   exact Ev.neg (by simp) (Ev.one (Ev.now _) (by simp))
 ·unfold impl_MirrorOk.f
  refine Ev.bind (Ev.const (isId_eq _)) ?_
  by_cases h:decide (0≤i∧i≤20)=true
  ·rw [h]
   refine Ev.pos rfl (Ev.bind (Ev.const (impl_HeadOk_eq c z)) ?_)
   by_cases h2:headOk c z=true
   ·rw [h2]
    refine Ev.pos rfl (Ev.bind k2 ?_)
    by_cases h3:isKnown t c z=true
    ·rw [h3]
     refine Ev.pos rfl (Ev.bind k4 ?_)
     by_cases h4:isKnown t n s=true
     ·rw [h4]
      exact Ev.pos rfl (Ev.bind q2 (Ev.one (Ev.now _) (by simp)))
     ·rw [Bool.eq_false_iff.mpr h4]
      exact Ev.neg (by simp) (Ev.one (Ev.now _) (by simp))
    ·rw [Bool.eq_false_iff.mpr h3]
     exact Ev.neg (by simp) (Ev.one (Ev.now _) (by simp))
   ·rw [Bool.eq_false_iff.mpr h2]
    exact Ev.neg (by simp) (Ev.one (Ev.now _) (by simp))
  ·rw [Bool.eq_false_iff.mpr h]
   exact Ev.neg (by simp) (Ev.one (Ev.now _) (by simp))
 ·simp only [Bool.and_eq_true,decide_eq_true_eq] at hr
  obtain ⟨e1,e2,e3,e4,e5⟩:=hr
  rw [e5] at q2
  exact ⟨e1,e2,e3,e4,q2⟩
 ·rw [ev_uniq q2 g5,decide_eq_true g1,g2,g3,g4]
  rfl
theorem impl_copyMirror_eq (i:Int) (l:List ByteArray) (n:Int) (s:ByteArray) (b:List Int) (u c:Int) (z:ByteArray) (hl:l.length < 8796093022208) (hb:b.length < 140737488355328):impl_copyMirror.f i l n s b u c z=some (i,l,n,s,b,u,c,z):=by
 unfold impl_copyMirror.f
 rw [impl_copyStore_eq l n s b u hl hb]
 rfl
theorem spec_l14Copy_eq (i:Int) (l:List ByteArray) (n:Int) (s:ByteArray) (b:List Int) (u c:Int) (z:ByteArray) (hl:l.length < 8796093022208) (hb:b.length < 140737488355328):spec_l14Copy.f i l n s b u c z=some (i,l,n,s,b,u,c,z):=by
 unfold spec_l14Copy.f
 rw [spec_l12Copy_eq l n s b u hl hb]
 rfl
end Go.Proofs.YtnlndmoecljicaaGreat.Q
end
