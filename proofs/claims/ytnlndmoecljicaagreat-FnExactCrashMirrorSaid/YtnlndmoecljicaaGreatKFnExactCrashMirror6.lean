/- The program's CrashMirror and the reference's return the same for every mirror, list of heads and number; no condition. -/
-- Joined and shortened by a program of this session (wip/tools/shakecopy.py): the words of the print,texts of pp.sh and of mine.
import Derived.Test.YtnlndmoecljicaaGreatKFnExactCrashMirror5
import Derived.Test.YtnlndmoecljicaaGreatRows
import Derived.WalkKit
import Derived.ProofKit
import Derived.OpenShut
import Derived.ShutString
import Derived.ChangeOld
import Derived.Below
import Derived.SizedLaws
import Derived.Carry
set_option linter.unusedVariables false
set_option linter.unusedSimpArgs false
section
namespace Go.Proofs.YtnlndmoecljicaaGreat.Q
open Go.Proofs.YtnlndmoecljicaaGreatW.PrintLast Go.Proofs.YtnlndmoecljicaaGreatW.PrintMore Go.Proofs.YtnlndmoecljicaaGreatW.PrintWords Go.RowKit
attribute [local go_sem] max2_int min2_int max_two min_two max_three min_three max_four min_four
set_option maxHeartbeats 8000000
set_option maxRecDepth 100000
mutual
def laws_FnExactCrashMirror.j0:Nat->List (S24)->Int->Int->List (S37)->Int->Bool->Int->List ByteArray->Int->ByteArray->List Int->Int->Int->ByteArray->Int->List ByteArray->Int->ByteArray->List Int->Int->Int->ByteArray->Int->List ByteArray->Int->ByteArray->List Int->Int->Int->ByteArray->Int->List ByteArray->Int->ByteArray->List Int->Int->Int->ByteArray->Option (Bool)
 | 0,_,_,_,_,_,_,_,_,_,_,_,_,_,_,_,_,_,_,_,_,_,_,_,_,_,_,_,_,_,_,_,_,_,_,_,_,_,_=>none
 | k+1,x1,x2,x9,x11,x13,x57,x2000,x2001,x2002,x2003,x2004,x2005,x2006,x2007,x33000,x33001,x33002,x33003,x33004,x33005,x33006,x33007,x46000,x46001,x46002,x46003,x46004,x46005,x46006,x46007,x63000,x63001,x63002,x63003,x63004,x63005,x63006,x63007=>if x57=true then (none) else ((laws_toMirror.f k x2000 x2001 x2002 x2003 x2004 x2005 x2006 x2007).bind fun bt64=>((laws_eqMirror.f k x46000 x46001 x46002 x46003 x46004 x46005 x46006 x46007 bt64.1 bt64.2.1 bt64.2.2.1 bt64.2.2.2.1 bt64.2.2.2.2.1 bt64.2.2.2.2.2.1 bt64.2.2.2.2.2.2.1 bt64.2.2.2.2.2.2.2).bind fun t76=>(if t76=true then ((laws_toHeadS.f k x1).bind fun t77=>((laws_eqHeadS.f k x11 t77).bind fun t80=>(if t80=true then ((laws_markMirror.f k x46000 x46001 x46002 x46003 x46004 x46005 x46006 x46007 1).bind fun bt81=>((laws_markHeadS.f k x11 bt81.1).bind fun bt84=>(if bt84.1 < 0 then (laws_FnExactCrashMirror.j1 k x1 x2 x9 true x2000 x2001 x2002 x2003 x2004 x2005 x2006 x2007 x33000 x33001 x33002 x33003 x33004 x33005 x33006 x33007 x63000 x63001 x63002 x63003 x63004 x63005 x63006 x63007) else ((laws_eqMirror.f k x63000 x63001 x63002 x63003 x63004 x63005 x63006 x63007 x33000 x33001 x33002 x33003 x33004 x33005 x33006 x33007).bind fun t86=>(if t86=true then (laws_FnExactCrashMirror.j1 k x1 x2 x9 (x13 != x9) x2000 x2001 x2002 x2003 x2004 x2005 x2006 x2007 x33000 x33001 x33002 x33003 x33004 x33005 x33006 x33007 x63000 x63001 x63002 x63003 x63004 x63005 x63006 x63007) else (laws_FnExactCrashMirror.j1 k x1 x2 x9 true x2000 x2001 x2002 x2003 x2004 x2005 x2006 x2007 x33000 x33001 x33002 x33003 x33004 x33005 x33006 x33007 x63000 x63001 x63002 x63003 x63004 x63005 x63006 x63007)))))) else (none)))) else (none))))
def laws_FnExactCrashMirror.j1:Nat->List (S24)->Int->Int->Bool->Int->List ByteArray->Int->ByteArray->List Int->Int->Int->ByteArray->Int->List ByteArray->Int->ByteArray->List Int->Int->Int->ByteArray->Int->List ByteArray->Int->ByteArray->List Int->Int->Int->ByteArray->Option (Bool)
 | 0,_,_,_,_,_,_,_,_,_,_,_,_,_,_,_,_,_,_,_,_,_,_,_,_,_,_,_,_=>none
 | k+1,x1,x2,x9,x86,x2000,x2001,x2002,x2003,x2004,x2005,x2006,x2007,x33000,x33001,x33002,x33003,x33004,x33005,x33006,x33007,x63000,x63001,x63002,x63003,x63004,x63005,x63006,x63007=>if x86=true then (none) else ((laws_markMirror.f k x63000 x63001 x63002 x63003 x63004 x63005 x63006 x63007 1).bind fun bt87=>((laws_heldMirror.f k x63000 bt87.2.1 x63002 x63003 bt87.2.2 x63005 x63006 x63007 1).bind fun t90=>(if t90 < 0 then (none) else (if t90=bt87.1 then ((laws_toMirror.f k x2000 x2001 x2002 x2003 x2004 x2005 x2006 x2007).bind fun bt91=>((laws_toHeadS.f k x1).bind fun t703=>((impl_CrashMirror.f k bt91.1 bt91.2.1 bt91.2.2.1 bt91.2.2.2.1 bt91.2.2.2.2.1 bt91.2.2.2.2.2.1 bt91.2.2.2.2.2.2.1 bt91.2.2.2.2.2.2.2 t703 x2).bind fun bt706=>((laws_eqMirror.f k bt706.1 bt706.2.1 bt706.2.2.1 bt706.2.2.2.1 bt706.2.2.2.2.1 bt706.2.2.2.2.2.1 bt706.2.2.2.2.2.2.1 bt706.2.2.2.2.2.2.2.1 x33000 x33001 x33002 x33003 x33004 x33005 x33006 x33007).bind fun t720=>(if t720=true then (laws_FnExactCrashMirror.j2 k bt87.1 (bt706.2.2.2.2.2.2.2.2 != x9) x63000 bt87.2.1 x63002 x63003 bt87.2.2 x63005 x63006 x63007) else (laws_FnExactCrashMirror.j2 k bt87.1 true x63000 bt87.2.1 x63002 x63003 bt87.2.2 x63005 x63006 x63007)))))) else (none)))))
def laws_FnExactCrashMirror.j2:Nat->Int->Bool->Int->List ByteArray->Int->ByteArray->List Int->Int->Int->ByteArray->Option (Bool)
 | 0,_,_,_,_,_,_,_,_,_,_=>none
 | k+1,x15,x115,x63000,x63001,x63002,x63003,x63004,x63005,x63006,x63007=>if x115=true then (none) else ((laws_heldMirror.f k x63000 x63001 x63002 x63003 x63004 x63005 x63006 x63007 1).bind fun t721=>(if t721 < 0 then (none) else (if t721=x15 then (some true) else (none))))
end
def laws_FnExactCrashMirror.f (k:Nat) (a0_0:Int) (l0_1:List ByteArray) (a0_2:Int) (a0_3:ByteArray) (l0_4:List Int) (a0_5:Int) (a0_6:Int) (a0_7:ByteArray) (l1:List (S24)) (a2:Int):Option (Bool):=(laws_szMirror.f k a0_0 l0_1 a0_2 a0_3 l0_4 a0_5 a0_6 a0_7 1048576).bind fun t602=>(if t602 < 0 then (some true) else ((laws_szHeadS.f k l1 t602).bind fun t3=>(if t3 < 0 then (some true) else ((laws_toMirror.f k a0_0 l0_1 a0_2 a0_3 l0_4 a0_5 a0_6 a0_7).bind fun bt4=>((laws_toHeadS.f k l1).bind fun t16=>((spec_CrashMirror.f k bt4.1 bt4.2.1 bt4.2.2.1 bt4.2.2.2.1 bt4.2.2.2.2.1 bt4.2.2.2.2.2.1 bt4.2.2.2.2.2.2.1 bt4.2.2.2.2.2.2.2 t16 a2).bind fun bt19=>((laws_toMirror.f k a0_0 l0_1 a0_2 a0_3 l0_4 a0_5 a0_6 a0_7).bind fun bt33=>((laws_toHeadS.f k l1).bind fun t46=>((impl_CrashMirror.f k bt33.1 bt33.2.1 bt33.2.2.1 bt33.2.2.2.1 bt33.2.2.2.2.1 bt33.2.2.2.2.2.1 bt33.2.2.2.2.2.2.1 bt33.2.2.2.2.2.2.2 t46 a2).bind fun bt49=>((laws_eqMirror.f k bt49.1 bt49.2.1 bt49.2.2.1 bt49.2.2.2.1 bt49.2.2.2.2.1 bt49.2.2.2.2.2.1 bt49.2.2.2.2.2.2.1 bt49.2.2.2.2.2.2.2.1 bt19.1 bt19.2.1 bt19.2.2.1 bt19.2.2.2.1 bt19.2.2.2.2.1 bt19.2.2.2.2.2.1 bt19.2.2.2.2.2.2.1 bt19.2.2.2.2.2.2.2.1).bind fun t63=>(if t63=true then (laws_FnExactCrashMirror.j0 k l1 a2 bt19.2.2.2.2.2.2.2.2 t46 bt49.2.2.2.2.2.2.2.2 (bt49.2.2.2.2.2.2.2.2 != bt19.2.2.2.2.2.2.2.2) a0_0 l0_1 a0_2 a0_3 l0_4 a0_5 a0_6 a0_7 bt19.1 bt19.2.1 bt19.2.2.1 bt19.2.2.2.1 bt19.2.2.2.2.1 bt19.2.2.2.2.2.1 bt19.2.2.2.2.2.2.1 bt19.2.2.2.2.2.2.2.1 bt33.1 bt33.2.1 bt33.2.2.1 bt33.2.2.2.1 bt33.2.2.2.2.1 bt33.2.2.2.2.2.1 bt33.2.2.2.2.2.2.1 bt33.2.2.2.2.2.2.2 bt49.1 bt49.2.1 bt49.2.2.1 bt49.2.2.2.1 bt49.2.2.2.2.1 bt49.2.2.2.2.2.1 bt49.2.2.2.2.2.2.1 bt49.2.2.2.2.2.2.2.1) else (laws_FnExactCrashMirror.j0 k l1 a2 bt19.2.2.2.2.2.2.2.2 t46 bt49.2.2.2.2.2.2.2.2 true a0_0 l0_1 a0_2 a0_3 l0_4 a0_5 a0_6 a0_7 bt19.1 bt19.2.1 bt19.2.2.1 bt19.2.2.2.1 bt19.2.2.2.2.1 bt19.2.2.2.2.2.1 bt19.2.2.2.2.2.2.1 bt19.2.2.2.2.2.2.2.1 bt33.1 bt33.2.1 bt33.2.2.1 bt33.2.2.2.1 bt33.2.2.2.2.1 bt33.2.2.2.2.2.1 bt33.2.2.2.2.2.2.1 bt33.2.2.2.2.2.2.2 bt49.1 bt49.2.1 bt49.2.2.1 bt49.2.2.2.1 bt49.2.2.2.2.1 bt49.2.2.2.2.2.1 bt49.2.2.2.2.2.2.1 bt49.2.2.2.2.2.2.2.1))))))))))))
theorem laws_FnExactCrashMirror.calls (k:Nat) (a0_0:Int) (A0_1:Option Addr) (c0_1:Nat) (l0_1:List ByteArray) (a0_2:Int) (a0_3:ByteArray) (A0_4:Option Addr) (c0_4:Nat) (l0_4:List Int) (a0_5:Int) (a0_6:Int) (a0_7:ByteArray) (A1:Option Addr) (c1:Nat) (l1:List (S24)) (a2:Int) (r:Bool) (w:World) (hr0_1:Kd.C Kd.string w A0_1 l0_1.length l0_1) (hc0_1:l0_1.length≤c0_1) (hr0_4:Kd.C (Kd.int .u8) w A0_4 l0_4.length l0_4) (hc0_4:l0_4.length≤c0_4) (hr1:Kd.C k24 w A1 l1.length l1) (hc1:l1.length≤c1) (h:laws_FnExactCrashMirror.f k a0_0 l0_1 a0_2 a0_3 l0_4 a0_5 a0_6 a0_7 l1 a2=some r) :
  Calls Tryz.prog 5 #[.agg #[.int .i64 a0_0,.slice A0_1 l0_1.length c0_1,.int .i64 a0_2,.string a0_3,.slice A0_4 l0_4.length c0_4,.int .i64 a0_5,.int .i64 a0_6,.string a0_7],.slice A1 l1.length c1,.int .i64 a2] w fun e w'=>e = .returned (.bool r)∧Below w.heap.size w w':=by
 have hu31:=Tryz.underlying31
 have hu43:=Tryz.underlying43
 have HR0_1:=am_ hr0_1
 have HC0_1:=am_ hc0_1
 clear hr0_1 hc0_1
 have HR0_4:=am_ hr0_4
 have HC0_4:=am_ hc0_4
 clear hr0_4 hc0_4
 have HR1:=am_ hr1
 have HC1:=am_ hc1
 clear hr1 hc1
 have HB:=h0_ w
 have H:((laws_szMirror.f k a0_0 l0_1 a0_2 a0_3 l0_4 a0_5 a0_6 a0_7 1048576).bind fun t602=>(if t602 < 0 then (some true) else ((laws_szHeadS.f k l1 t602).bind fun t3=>(if t3 < 0 then (some true) else ((laws_toMirror.f k a0_0 l0_1 a0_2 a0_3 l0_4 a0_5 a0_6 a0_7).bind fun bt4=>((laws_toHeadS.f k l1).bind fun t16=>((spec_CrashMirror.f k bt4.1 bt4.2.1 bt4.2.2.1 bt4.2.2.2.1 bt4.2.2.2.2.1 bt4.2.2.2.2.2.1 bt4.2.2.2.2.2.2.1 bt4.2.2.2.2.2.2.2 t16 a2).bind fun bt19=>((laws_toMirror.f k a0_0 l0_1 a0_2 a0_3 l0_4 a0_5 a0_6 a0_7).bind fun bt33=>((laws_toHeadS.f k l1).bind fun t46=>((impl_CrashMirror.f k bt33.1 bt33.2.1 bt33.2.2.1 bt33.2.2.2.1 bt33.2.2.2.2.1 bt33.2.2.2.2.2.1 bt33.2.2.2.2.2.2.1 bt33.2.2.2.2.2.2.2 t46 a2).bind fun bt49=>((laws_eqMirror.f k bt49.1 bt49.2.1 bt49.2.2.1 bt49.2.2.2.1 bt49.2.2.2.2.1 bt49.2.2.2.2.2.1 bt49.2.2.2.2.2.2.1 bt49.2.2.2.2.2.2.2.1 bt19.1 bt19.2.1 bt19.2.2.1 bt19.2.2.2.1 bt19.2.2.2.2.1 bt19.2.2.2.2.2.1 bt19.2.2.2.2.2.2.1 bt19.2.2.2.2.2.2.2.1).bind fun t63=>(if t63=true then (laws_FnExactCrashMirror.j0 k l1 a2 bt19.2.2.2.2.2.2.2.2 t46 bt49.2.2.2.2.2.2.2.2 (bt49.2.2.2.2.2.2.2.2 != bt19.2.2.2.2.2.2.2.2) a0_0 l0_1 a0_2 a0_3 l0_4 a0_5 a0_6 a0_7 bt19.1 bt19.2.1 bt19.2.2.1 bt19.2.2.2.1 bt19.2.2.2.2.1 bt19.2.2.2.2.2.1 bt19.2.2.2.2.2.2.1 bt19.2.2.2.2.2.2.2.1 bt33.1 bt33.2.1 bt33.2.2.1 bt33.2.2.2.1 bt33.2.2.2.2.1 bt33.2.2.2.2.2.1 bt33.2.2.2.2.2.2.1 bt33.2.2.2.2.2.2.2 bt49.1 bt49.2.1 bt49.2.2.1 bt49.2.2.2.1 bt49.2.2.2.2.1 bt49.2.2.2.2.2.1 bt49.2.2.2.2.2.2.1 bt49.2.2.2.2.2.2.2.1) else (laws_FnExactCrashMirror.j0 k l1 a2 bt19.2.2.2.2.2.2.2.2 t46 bt49.2.2.2.2.2.2.2.2 true a0_0 l0_1 a0_2 a0_3 l0_4 a0_5 a0_6 a0_7 bt19.1 bt19.2.1 bt19.2.2.1 bt19.2.2.2.1 bt19.2.2.2.2.1 bt19.2.2.2.2.2.1 bt19.2.2.2.2.2.2.1 bt19.2.2.2.2.2.2.2.1 bt33.1 bt33.2.1 bt33.2.2.1 bt33.2.2.2.1 bt33.2.2.2.2.1 bt33.2.2.2.2.2.1 bt33.2.2.2.2.2.2.1 bt33.2.2.2.2.2.2.2 bt49.1 bt49.2.1 bt49.2.2.1 bt49.2.2.2.1 bt49.2.2.2.2.1 bt49.2.2.2.2.2.1 bt49.2.2.2.2.2.2.1 bt49.2.2.2.2.2.2.2.1)))))))))))))=some r:=h
 clear h
 replace H:=bi_ H;obtain ⟨t602,A4,H⟩:=H
 replace H:=itd_ H;obtain ⟨c5b0,H⟩|⟨c5b0,H⟩:=H
 ·obtain rfl:=Option.some.inj H
  go_enter Tryz.func5,Tryz.ntmps5
  go_wp2_with (first|((with_reducible refine gd_ 3 ?_);refine bx_ 3 31 #[.int .i64 a0_0,.slice A0_1 l0_1.length c0_1,.int .i64 a0_2,.string a0_3,.slice A0_4 l0_4.length c0_4,.int .i64 a0_5,.int .i64 a0_6,.string a0_7] (hx_ HB ?_);clear HB;intro gb1 w6 BK1 GW1 HB;have GE1:=GW1;have hcz7:=cz8_ BK1)|((with_reducible refine gq_ 9 21 ?_);refine gc_ 21 Tryz.func9 (laws_szMirror.calls k a0_0 _ _ l0_1 a0_2 a0_3 _ _ l0_4 a0_5 a0_6 a0_7 1048576 t602 _ (cb_ HR0_1 HB) HC0_1.out (cb_ HR0_4 HB) HC0_4.out A4.out) ?_;rintro e w8 ⟨rfl,hb⟩;refine ⟨_,rfl,?_⟩;replace BK1:=kl_ BK1 hb;replace HB:=ss_ HB hb;clear hb))
  go_ret
  exact ⟨e2_,bw_ HB⟩
 ·replace H := bi_ H;obtain ⟨t3,A9,H⟩:=H
  replace H:=itd_ H;obtain ⟨c10b0,H⟩|⟨c10b0,H⟩:=H
  ·obtain rfl:=Option.some.inj H
   go_enter Tryz.func5,Tryz.ntmps5
   go_wp2_with (first|((with_reducible refine gd_ 3 ?_);refine bx_ 3 31 #[.int .i64 a0_0,.slice A0_1 l0_1.length c0_1,.int .i64 a0_2,.string a0_3,.slice A0_4 l0_4.length c0_4,.int .i64 a0_5,.int .i64 a0_6,.string a0_7] (hx_ HB ?_);clear HB;intro gb1 w11 BK1 GW1 HB;have GE1:=GW1;have hcz12:=cz8_ BK1)|((with_reducible refine gq_ 9 21 ?_);refine gc_ 21 Tryz.func9 (laws_szMirror.calls k a0_0 _ _ l0_1 a0_2 a0_3 _ _ l0_4 a0_5 a0_6 a0_7 1048576 t602 _ (cb_ HR0_1 HB) HC0_1.out (cb_ HR0_4 HB) HC0_4.out A4.out) ?_;rintro e w13 ⟨rfl,hb⟩;refine ⟨_,rfl,?_⟩;replace BK1:=kl_ BK1 hb;replace HB:=ss_ HB hb;clear hb)|((with_reducible refine gq_ 10 26 ?_);refine gc_ 26 Tryz.func10 (laws_szHeadS.calls k _ _ l1 t602 t3 _ (cb_ HR1 HB) HC1.out A9.out) ?_;rintro e w14 ⟨rfl,hb⟩;refine ⟨_,rfl,?_⟩;replace BK1:=kl_ BK1 hb;replace HB:=ss_ HB hb;clear hb))
   go_ret
   exact ⟨e2_,bw_ HB⟩
  ·replace H:=bi_ H;obtain ⟨⟨t4,t5,t8,t9,t10,t13,t14,t15⟩,A15,H⟩:=H
   dsimp only at H
   replace H:=bi_ H;obtain ⟨t16,A16,H⟩:=H
   replace H:=bi_ H;obtain ⟨⟨t19,t20,t23,t24,t25,t28,t29,t30,t31⟩,A17,H⟩:=H
   dsimp only at H
   replace H:=bi_ H;obtain ⟨⟨t33,t34,t37,t38,t39,t42,t43,t44⟩,A18,H⟩:=H
   dsimp only at H
   replace H:=bi_ H;obtain ⟨t46,A19,H⟩:=H
   replace H:=bi_ H;obtain ⟨⟨t49,t50,t53,t54,t55,t58,t59,t60,t61⟩,A20,H⟩:=H
   dsimp only at H
   have HC21:=am_ H
   clear H
   go_enter Tryz.func5,Tryz.ntmps5
   go_upto_region 12 with (first|((with_reducible refine gd_ 3 ?_);refine bx_ 3 31 #[.int .i64 a0_0,.slice A0_1 l0_1.length c0_1,.int .i64 a0_2,.string a0_3,.slice A0_4 l0_4.length c0_4,.int .i64 a0_5,.int .i64 a0_6,.string a0_7] (hx_ HB ?_);clear HB;intro gb1 w22 BK1 GW1 HB;have GE1:=GW1;have hcz23:=cz8_ BK1)|((with_reducible refine gq_ 9 21 ?_);refine gc_ 21 Tryz.func9 (laws_szMirror.calls k a0_0 _ _ l0_1 a0_2 a0_3 _ _ l0_4 a0_5 a0_6 a0_7 1048576 t602 _ (cb_ HR0_1 HB) HC0_1.out (cb_ HR0_4 HB) HC0_4.out A4.out) ?_;rintro e w24 ⟨rfl,hb⟩;refine ⟨_,rfl,?_⟩;replace BK1:=kl_ BK1 hb;replace HB:=ss_ HB hb;clear hb)|((with_reducible refine gq_ 10 26 ?_);refine gc_ 26 Tryz.func10 (laws_szHeadS.calls k _ _ l1 t602 t3 _ (cb_ HR1 HB) HC1.out A9.out) ?_;rintro e w25 ⟨rfl,hb⟩;refine ⟨_,rfl,?_⟩;replace BK1:=kl_ BK1 hb;replace HB:=ss_ HB hb;clear hb;have hcz26:=cz8_ BK1)|((with_reducible refine gq_ 12 31 ?_);refine gc_ 31 Tryz.func12 (laws_toMirror.calls k a0_0 _ _ l0_1 a0_2 a0_3 _ _ l0_4 a0_5 a0_6 a0_7 t4 t5 t8 t9 t10 t13 t14 t15 _ (cb_ HR0_1 HB) HC0_1.out (cb_ HR0_4 HB) HC0_4.out A15.out) ?_;rintro e w27 ⟨v6,v11,rfl,ho0,ho1,hb⟩;refine ⟨_,rfl,?_⟩;have HO7:=rlo_ ho0 HB;have HO12:=rlo_ ho1 HB;replace BK1:=kl_ BK1 hb;replace HB:=ss_ HB hb;clear hb ho0 ho1)|((with_reducible refine gq_ 13 33 ?_);refine gc_ 33 Tryz.func13 (laws_toHeadS.calls k _ _ l1 t16 _ (cb_ HR1 HB) HC1.out A16.out) ?_;rintro e w28 ⟨v17,rfl,ho0,hb⟩;refine ⟨_,rfl,?_⟩;replace HO7:=rb_ HO7 hb;replace HO12:=rb_ HO12 hb;have HO18:=rlo_ ho0 HB;replace BK1:=kl_ BK1 hb;replace HB:=ss_ HB hb;clear hb ho0;obtain ⟨Ao29,co29,eo29⟩:=Kd.R_slice HO7.out;subst eo29;obtain ⟨Ao30,co30,eo30⟩:=Kd.R_slice HO12.out;subst eo30;obtain ⟨Ao31,co31,eo31⟩:=Kd.R_slice HO18.out;subst eo31)|((with_reducible refine gq_ 25 35 ?_);refine gc_ 35 Tryz.func25 (spec_CrashMirror.calls k t4 _ _ t5 t8 t9 _ _ t10 t13 t14 t15 _ _ t16 a2 t19 t20 t23 t24 t25 t28 t29 t30 t31 _ (ch_ HO7) (cl_ HO7) (ch_ HO12) (cl_ HO12) (ch_ HO18) (cl_ HO18) A17.out) ?_;rintro e w32 ⟨v21,v26,rfl,ho0,ho1,hb⟩;refine ⟨_,rfl,?_⟩;replace HO18:=rb_ HO18 hb;have HO22:=am_ (Kd.R_lower (Kd.R_new' ho0 (lt_ HO7)) (sz_ HB));replace HO7:=re_ HO7 ho0 hb;have HO27:=am_ (Kd.R_lower (Kd.R_new' ho1 (lt_ HO12)) (sz_ HB));replace HO12:=re_ HO12 ho1 hb;replace BK1:=kl_ BK1 hb;replace HB:=ss_ HB hb;clear hb ho0 ho1)|((with_reducible refine gd_ 8 ?_);refine x43_ 8 ?_;intro gb32 hg w33 hbox hb;replace HO7:=rb_ HO7 hb;replace HO12:=rb_ HO12 hb;replace HO18:=rb_ HO18 hb;replace HO22:=rb_ HO22 hb;replace HO27:=rb_ HO27 hb;have BK32:=am_ hbox;have GW32:=gg_ hg HB;have GE32:=GW32;replace HB:=ss_ HB hb;have NB1_32:=nla_ hg BK1;have NB32_1:=nga_ hg BK1;replace BK1:=kl_ BK1 hb;clear hb hbox hg;have hnb34:=NB32_1.out;have hnc34:=NB1_32.out;have hcz35:=cz8_ BK32;obtain ⟨Ao36,co36,eo36⟩:=Kd.R_slice HO22.out;subst eo36;obtain ⟨Ao37,co37,eo37⟩:=Kd.R_slice HO27.out;subst eo37;have hcz38:=cz8_ BK1)|((with_reducible refine gq_ 12 39 ?_);refine gc_ 39 Tryz.func12 (laws_toMirror.calls k a0_0 _ _ l0_1 a0_2 a0_3 _ _ l0_4 a0_5 a0_6 a0_7 t33 t34 t37 t38 t39 t42 t43 t44 _ (Kd.C_below HR0_1.out (bw_ HB)) HC0_1.out (Kd.C_below HR0_4.out (bw_ HB)) HC0_4.out A18.out) ?_;rintro e w39 ⟨v35,v40,rfl,ho0,ho1,hb⟩;refine ⟨_,rfl,?_⟩;replace HO18:=rbf_ HO18 BK32 hb;have HO36:=am_ (Kd.R_lower (Kd.R_new' (Kd.R_new' ho0 (lf_ HO7 BK32)) (lf_ HO22 BK32)) (sz_ HB));replace HO7:=ref_ HO7 BK32 ho0 hb;replace HO22:=ref_ HO22 BK32 ho0 hb;have HO41:=am_ (Kd.R_lower (Kd.R_new' (Kd.R_new' ho1 (lf_ HO12 BK32)) (lf_ HO27 BK32)) (sz_ HB));replace HO12:=ref_ HO12 BK32 ho1 hb;replace HO27:=ref_ HO27 BK32 ho1 hb;replace BK1:=kp_ BK1 hb;replace BK32:=kp_ BK32 hb;replace HB:=ss_ HB hb;clear hb ho0 ho1)|((with_reducible refine gd_ 10 ?_);refine x43_ 10 ?_;intro gb45 hg w40 hbox hb;replace HO7:=rb_ HO7 hb;replace HO12:=rb_ HO12 hb;replace HO18:=rb_ HO18 hb;replace HO22:=rb_ HO22 hb;replace HO27:=rb_ HO27 hb;replace HO36:=rb_ HO36 hb;replace HO41:=rb_ HO41 hb;have BK45:=am_ hbox;have GW45:=gg_ hg HB;have GE45:=GW45;replace HB:=ss_ HB hb;have NB1_45:=nla_ hg BK1;have NB45_1:=nga_ hg BK1;replace BK1:=kl_ BK1 hb;have NB32_45:=nla_ hg BK32;have NB45_32:=nga_ hg BK32;replace BK32:=kl_ BK32 hb;clear hb hbox hg;have hnb41:=NB45_1.out;have hnc41:=NB1_45.out;have hnb42:=NB45_32.out;have hnc42:=NB32_45.out;have hcz43:=cz8_ BK45;obtain ⟨Ao44,co44,eo44⟩:=Kd.R_slice HO36.out;subst eo44;obtain ⟨Ao45,co45,eo45⟩:=Kd.R_slice HO41.out;subst eo45)|((with_reducible refine gq_ 13 41 ?_);refine gc_ 41 Tryz.func13 (laws_toHeadS.calls k _ _ l1 t46 _ (Kd.C_below HR1.out (bw_ HB)) HC1.out A19.out) ?_;rintro e w46 ⟨v47,rfl,ho0,hb⟩;refine ⟨_,rfl,?_⟩;replace HO7:=rbf_ HO7 BK45 hb;replace HO12:=rbf_ HO12 BK45 hb;replace HO22:=rbf_ HO22 BK45 hb;replace HO27:=rbf_ HO27 BK45 hb;replace HO36:=rbf_ HO36 BK45 hb;replace HO41:=rbf_ HO41 BK45 hb;have HO48:=am_ (Kd.R_lower (Kd.R_new' ho0 (lf_ HO18 BK45)) (sz_ HB));replace HO18:=ref_ HO18 BK45 ho0 hb;replace BK1:=kp_ BK1 hb;replace BK32:=kp_ BK32 hb;replace BK45:=kp_ BK45 hb;replace HB:=ss_ HB hb;clear hb ho0;have hcz47:=cz8_ BK45;obtain ⟨Ao48,co48,eo48⟩:=Kd.R_slice HO48.out;subst eo48)|((with_reducible refine gq_ 24 46 ?_);refine gc_ 46 Tryz.func24 (impl_CrashMirror.calls k t33 _ _ t34 t37 t38 _ _ t39 t42 t43 t44 _ _ t46 a2 t49 t50 t53 t54 t55 t58 t59 t60 t61 _ (ch_ HO36) (cl_ HO36) (ch_ HO41) (cl_ HO41) (ch_ HO48) (cl_ HO48) A20.out) ?_;rintro e w49 ⟨v51,v56,rfl,ho0,ho1,hb⟩;refine ⟨_,rfl,?_⟩;replace HO18:=rb_ HO18 hb;replace HO48:=rb_ HO48 hb;have HO52:=am_ (Kd.R_lower (Kd.R_new' (Kd.R_new' (Kd.R_new' ho0 (lt_ HO7)) (lt_ HO22)) (lt_ HO36)) (sz_ HB));replace HO7:=re_ HO7 ho0 hb;replace HO22:=re_ HO22 ho0 hb;replace HO36:=re_ HO36 ho0 hb;have HO57:=am_ (Kd.R_lower (Kd.R_new' (Kd.R_new' (Kd.R_new' ho1 (lt_ HO12)) (lt_ HO27)) (lt_ HO41)) (sz_ HB));replace HO12:=re_ HO12 ho1 hb;replace HO27:=re_ HO27 ho1 hb;replace HO41:=re_ HO41 ho1 hb;replace BK1:=kl_ BK1 hb;replace BK32:=kl_ BK32 hb;replace BK45:=kl_ BK45 hb;replace HB:=ss_ HB hb;clear hb ho0 ho1)|((with_reducible refine gd_ 12 ?_);refine x43_ 12 ?_;intro gb62 hg w50 hbox hb;replace HO7:=rb_ HO7 hb;replace HO12:=rb_ HO12 hb;replace HO18:=rb_ HO18 hb;replace HO22:=rb_ HO22 hb;replace HO27:=rb_ HO27 hb;replace HO36:=rb_ HO36 hb;replace HO41:=rb_ HO41 hb;replace HO48:=rb_ HO48 hb;replace HO52:=rb_ HO52 hb;replace HO57:=rb_ HO57 hb;have BK62:=am_ hbox;have GW62:=gg_ hg HB;have GE62:=GW62;replace HB:=ss_ HB hb;have NB1_62:=nla_ hg BK1;have NB62_1:=nga_ hg BK1;replace BK1:=kl_ BK1 hb;have NB32_62:=nla_ hg BK32;have NB62_32:=nga_ hg BK32;replace BK32:=kl_ BK32 hb;have NB45_62:=nla_ hg BK45;have NB62_45:=nga_ hg BK45;replace BK45:=kl_ BK45 hb;clear hb hbox hg;have hnb51:=NB62_1.out;have hnc51:=NB1_62.out;have hnb52:=NB62_32.out;have hnc52:=NB32_62.out;have hnb53:=NB62_45.out;have hnc53:=NB45_62.out;have hcz54:=cz8_ BK62;obtain ⟨Ao55,co55,eo55⟩:=Kd.R_slice HO52.out;subst eo55;obtain ⟨Ao56,co56,eo56⟩:=Kd.R_slice HO57.out;subst eo56))
   (try simp only [Act.put,List.setIfInBounds_toArray,List.set_cons_zero,List.set_cons_succ])
   go_cut [57] (fun v57 wc=>∃ (kq:Nat) (x57_20:Bool),v57 = .bool x57_20∧Aside0 (laws_FnExactCrashMirror.j0 kq l1 a2 t31 t46 t61 x57_20 a0_0 l0_1 a0_2 a0_3 l0_4 a0_5 a0_6 a0_7 t19 t20 t23 t24 t25 t28 t29 t30 t33 t34 t37 t38 t39 t42 t43 t44 t49 t50 t53 t54 t55 t58 t59 t60=some r)∧Aside0 (kq≤k)∧Aside0 (Kd.R k37 37 wc w.heap.size (fun _=>True) (.slice Ao48 t46.length co48) t46)∧Aside0 (Kd.R Kd.string 9 wc w.heap.size (fun k_=>some k_ ≠ ((.slice Ao44 t34.length co44):Value).ownBlock∧some k_ ≠ ((.slice Ao55 t50.length co55):Value).ownBlock) (.slice Ao36 t20.length co36) t20)∧Aside0 (Kd.R (Kd.int .u8) 5 wc w.heap.size (fun k_=>some k_ ≠ ((.slice Ao45 t39.length co45):Value).ownBlock∧some k_ ≠ ((.slice Ao56 t55.length co56):Value).ownBlock) (.slice Ao37 t25.length co37) t25)∧Aside0 (Kd.R Kd.string 9 wc w.heap.size (fun k_=>some k_ ≠ ((.slice Ao36 t20.length co36):Value).ownBlock∧some k_ ≠ ((.slice Ao55 t50.length co55):Value).ownBlock) (.slice Ao44 t34.length co44) t34)∧Aside0 (Kd.R (Kd.int .u8) 5 wc w.heap.size (fun k_=>some k_ ≠ ((.slice Ao37 t25.length co37):Value).ownBlock∧some k_ ≠ ((.slice Ao56 t55.length co56):Value).ownBlock) (.slice Ao45 t39.length co45) t39)∧Aside0 (Kd.R Kd.string 9 wc w.heap.size (fun k_=>some k_ ≠ ((.slice Ao36 t20.length co36):Value).ownBlock∧some k_ ≠ ((.slice Ao44 t34.length co44):Value).ownBlock) (.slice Ao55 t50.length co55) t50)∧Aside0 (Kd.R (Kd.int .u8) 5 wc w.heap.size (fun k_=>some k_ ≠ ((.slice Ao37 t25.length co37):Value).ownBlock∧some k_ ≠ ((.slice Ao45 t39.length co45):Value).ownBlock) (.slice Ao56 t55.length co56) t55)∧Aside0 (wc.heap[gb1]?=some (.cells #[.int .i64 a0_0,(.slice A0_1 l0_1.length c0_1),.int .i64 a0_2,.string a0_3,(.slice A0_4 l0_4.length c0_4),.int .i64 a0_5,.int .i64 a0_6,.string a0_7] 31 (0,0)))∧Aside0 (wc.heap[gb32]?=some (.cells #[.int .i64 t19,(.slice Ao36 t20.length co36),.int .i64 t23,.string t24,(.slice Ao37 t25.length co37),.int .i64 t28,.int .i64 t29,.string t30] 43 (0,0)))∧Aside0 (wc.heap[gb45]?=some (.cells #[.int .i64 t33,(.slice Ao44 t34.length co44),.int .i64 t37,.string t38,(.slice Ao45 t39.length co45),.int .i64 t42,.int .i64 t43,.string t44] 43 (0,0)))∧Aside0 (wc.heap[gb62]?=some (.cells #[.int .i64 t49,(.slice Ao55 t50.length co55),.int .i64 t53,.string t54,(.slice Ao56 t55.length co56),.int .i64 t58,.int .i64 t59,.string t60] 43 (0,0)))∧Aside0 (Below w.heap.size w wc))
   case first =>
    have H:=HC21.out
    clear HC21
    replace H:=bi_ H;obtain ⟨t63,A57,H⟩:=H
    replace H:=itb_ H;obtain ⟨rfl,H⟩|⟨rfl,H⟩:=H
    ·have H':=am_ H
     clear H
     have hnb59:=NB62_1.out
     have hnc59:=NB1_62.out
     have hnb60:=NB62_32.out
     have hnc60:=NB32_62.out
     have hnb61:=NB62_45.out
     have hnc61:=NB45_62.out
     have hcz62:=cz8_ BK62
     have hnb63:=NB32_1.out
     have hnc63:=NB1_32.out
     have hnb64:=NB32_45.out
     have hnc64:=NB45_32.out
     have hcz65:=cz8_ BK32
     go_wp2_with (first|((with_reducible refine gq_ 16 51 ?_);refine gc_ 51 Tryz.func16 (laws_eqMirror.calls k t49 _ _ t50 t53 t54 _ _ t55 t58 t59 t60 t19 _ _ t20 t23 t24 _ _ t25 t28 t29 t30 true _ (chf_ HO52 BK62) (cl_ HO52) (chf_ HO57 BK62) (cl_ HO57) (chf_ HO22 BK62) (cl_ HO22) (chf_ HO27 BK62) (cl_ HO27) A57.out) ?_;rintro e w66 ⟨rfl,hb⟩;refine ⟨_,rfl,?_⟩;replace HO7:=rbf_ HO7 BK62 hb;replace HO12:=rbf_ HO12 BK62 hb;replace HO18:=rbf_ HO18 BK62 hb;replace HO22:=rbf_ HO22 BK62 hb;replace HO27:=rbf_ HO27 BK62 hb;replace HO36:=rbf_ HO36 BK62 hb;replace HO41:=rbf_ HO41 BK62 hb;replace HO48:=rbf_ HO48 BK62 hb;replace HO52:=rbf_ HO52 BK62 hb;replace HO57:=rbf_ HO57 BK62 hb;replace BK1:=kp_ BK1 hb;replace BK32:=kp_ BK32 hb;replace BK45:=kp_ BK45 hb;replace BK62:=kp_ BK62 hb;replace HB:=ss_ HB hb;clear hb))
     go_meet
     case rel => exact ⟨_,((t61 != t31)),e1_,H',⟨le_⟩,⟨km_ HO48⟩,⟨kr_ (Kd.R_mono HO22.out (fun _ hk=>⟨hk.1.2,hk.2⟩))⟩,⟨kr_ (Kd.R_mono HO27.out (fun _ hk=>⟨hk.1.2,hk.2⟩))⟩,⟨kr_ (Kd.R_mono HO36.out (fun _ hk=>⟨hk.1.2,hk.2⟩))⟩,⟨kr_ (Kd.R_mono HO41.out (fun _ hk=>⟨hk.1.2,hk.2⟩))⟩,⟨kr_ (Kd.R_mono HO52.out (fun _ hk=>⟨hk.1.2,hk.2⟩))⟩,⟨kr_ (Kd.R_mono HO57.out (fun _ hk=>⟨hk.1.2,hk.2⟩))⟩,⟨kb_ BK1.out⟩,⟨kb_ BK32.out⟩,⟨kb_ BK45.out⟩,⟨kb_ BK62.out⟩,⟨bw_ HB⟩⟩
    ·have H':=am_ H
     clear H
     have hnb67:=NB62_1.out
     have hnc67:=NB1_62.out
     have hnb68:=NB62_32.out
     have hnc68:=NB32_62.out
     have hnb69:=NB62_45.out
     have hnc69:=NB45_62.out
     have hcz70:=cz8_ BK62
     have hnb71:=NB32_1.out
     have hnc71:=NB1_32.out
     have hnb72:=NB32_45.out
     have hnc72:=NB45_32.out
     have hcz73:=cz8_ BK32
     go_wp2_with (first|((with_reducible refine gq_ 16 51 ?_);refine gc_ 51 Tryz.func16 (laws_eqMirror.calls k t49 _ _ t50 t53 t54 _ _ t55 t58 t59 t60 t19 _ _ t20 t23 t24 _ _ t25 t28 t29 t30 false _ (chf_ HO52 BK62) (cl_ HO52) (chf_ HO57 BK62) (cl_ HO57) (chf_ HO22 BK62) (cl_ HO22) (chf_ HO27 BK62) (cl_ HO27) A57.out) ?_;rintro e w74 ⟨rfl,hb⟩;refine ⟨_,rfl,?_⟩;replace HO7:=rbf_ HO7 BK62 hb;replace HO12:=rbf_ HO12 BK62 hb;replace HO18:=rbf_ HO18 BK62 hb;replace HO22:=rbf_ HO22 BK62 hb;replace HO27:=rbf_ HO27 BK62 hb;replace HO36:=rbf_ HO36 BK62 hb;replace HO41:=rbf_ HO41 BK62 hb;replace HO48:=rbf_ HO48 BK62 hb;replace HO52:=rbf_ HO52 BK62 hb;replace HO57:=rbf_ HO57 BK62 hb;replace BK1:=kp_ BK1 hb;replace BK32:=kp_ BK32 hb;replace BK45:=kp_ BK45 hb;replace BK62:=kp_ BK62 hb;replace HB:=ss_ HB hb;clear hb))
     go_meet
     case rel => exact ⟨_,(true),e1_,H',⟨le_⟩,⟨km_ HO48⟩,⟨kr_ (Kd.R_mono HO22.out (fun _ hk=>⟨hk.1.2,hk.2⟩))⟩,⟨kr_ (Kd.R_mono HO27.out (fun _ hk=>⟨hk.1.2,hk.2⟩))⟩,⟨kr_ (Kd.R_mono HO36.out (fun _ hk=>⟨hk.1.2,hk.2⟩))⟩,⟨kr_ (Kd.R_mono HO41.out (fun _ hk=>⟨hk.1.2,hk.2⟩))⟩,⟨kr_ (Kd.R_mono HO52.out (fun _ hk=>⟨hk.1.2,hk.2⟩))⟩,⟨kr_ (Kd.R_mono HO57.out (fun _ hk=>⟨hk.1.2,hk.2⟩))⟩,⟨kb_ BK1.out⟩,⟨kb_ BK32.out⟩,⟨kb_ BK45.out⟩,⟨kb_ BK62.out⟩,⟨bw_ HB⟩⟩
   case rest =>
    clear HC21
    try clear c5b0
    try clear c10b0
    obtain ⟨kq,x57_20,rfl,HA,HJ20,HO_11,HO_33001,HO_33004,HO_46001,HO_46004,HO_63001,HO_63004,BK1,BK32,BK45,BK62,HB⟩:=hcut
    cases kq with
    | zero=>exact absurd HA.out (by simp [laws_FnExactCrashMirror.j0])
    | succ kj20 =>
     have H:=HA.out
     clear HA
     simp only [laws_FnExactCrashMirror.j0] at H
     replace H:=inb_ H;obtain ⟨rfl,H⟩:=H
     replace H:=bi_ H;obtain ⟨⟨t64,t65,t68,t69,t70,t73,t74,t75⟩,A76,H⟩:=H
     dsimp only at H
     replace H:=bi_ H;obtain ⟨t76,A77,H⟩:=H
     replace H:=ipb_ H;obtain ⟨rfl,H⟩:=H
     replace H:=bi_ H;obtain ⟨t77,A79,H⟩:=H
     replace H:=bi_ H;obtain ⟨t80,A80,H⟩:=H
     replace H:=ipb_ H;obtain ⟨rfl,H⟩:=H
     replace H:=bi_ H;obtain ⟨⟨t81,t82,t83⟩,A82,H⟩:=H
     dsimp only at H
     replace H:=bi_ H;obtain ⟨⟨t84,t85⟩,A83,H⟩:=H
     dsimp only at H
     have HC84:=am_ H
     clear H
     try go_wp2
     replace HO_11:=am_ (Kd.R_drew HO_11.out)
     replace HO_33001:=am_ (Kd.R_drew HO_33001.out)
     replace HO_33004:=am_ (Kd.R_drew HO_33004.out)
     replace HO_46001:=am_ (Kd.R_drew HO_46001.out)
     replace HO_46004:=am_ (Kd.R_drew HO_46004.out)
     replace HO_63001:=am_ (Kd.R_drew HO_63001.out)
     replace HO_63004:=am_ (Kd.R_drew HO_63004.out)
     replace BK1:=bd_ BK1
     replace BK32:=bd_ BK32
     replace BK45:=bd_ BK45
     replace BK62:=bd_ BK62
     replace HB:=hd_ HB
     refine start_ (n:=5) (S:=fun w'=>w'.cell? ⟨gb45,0,none⟩=some (.int .i64 t33)∧w'.cell? ⟨gb45,1,none⟩=some (.slice Ao44 t34.length co44)∧w'.cell? ⟨gb45,2,none⟩=some (.int .i64 t37)∧w'.cell? ⟨gb45,3,none⟩=some (.string t38)∧w'.cell? ⟨gb45,4,none⟩=some (.slice Ao45 t39.length co45)∧w'.cell? ⟨gb45,5,none⟩=some (.int .i64 t42)∧w'.cell? ⟨gb45,6,none⟩=some (.int .i64 t43)∧w'.cell? ⟨gb45,7,none⟩=some (.string t44)∧w'.cell? ⟨gb1,0,none⟩=some (.int .i64 a0_0)∧w'.cell? ⟨gb1,1,none⟩=some (.slice A0_1 l0_1.length c0_1)∧w'.cell? ⟨gb1,2,none⟩=some (.int .i64 a0_2)∧w'.cell? ⟨gb1,3,none⟩=some (.string a0_3)∧w'.cell? ⟨gb1,4,none⟩=some (.slice A0_4 l0_4.length c0_4)∧w'.cell? ⟨gb1,5,none⟩=some (.int .i64 a0_5)∧w'.cell? ⟨gb1,6,none⟩=some (.int .i64 a0_6)∧w'.cell? ⟨gb1,7,none⟩=some (.string a0_7)) (ds:=[]) (lz_ 5 0) (by kernel_rfl) rfl rfl ⟨bc0_ BK45.out,bc1_ BK45.out,bc2_ BK45.out,bc3_ BK45.out,bc4_ BK45.out,bc5_ BK45.out,bc6_ BK45.out,bc7_ BK45.out,bc0_ BK1.out,bc1_ BK1.out,bc2_ BK1.out,bc3_ BK1.out,bc4_ BK1.out,bc5_ BK1.out,bc6_ BK1.out,bc7_ BK1.out⟩ (fun hHeld=>?_)
     generalize wc.drew=w85 at HO_11 HO_33001 HO_33004 HO_46001 HO_46004 HO_63001 HO_63004 BK1 BK32 BK45 BK62 HB hHeld ⊢
     refine tk_ 0 58 1 ?_
     refine tk_ 1 59 3 ?_
     refine one_ (i:=2) (N:=some 60) (lz_ 5 7) rfl rfl (by kernel_rfl) (by decide) (fun K hK=>?_)
     refine gf_ Tryz.func12 (laws_toMirror.calls kj20 a0_0 _ _ l0_1 a0_2 a0_3 _ _ l0_4 a0_5 a0_6 a0_7 t64 t65 t68 t69 t70 t73 t74 t75 _ (cb_ HR0_1 HB) HC0_1.out (cb_ HR0_4 HB) HC0_4.out A76.out) ?_
     rintro e w86 ⟨v66,v71,rfl,ho0,ho1,hb⟩
     refine ⟨_,rfl,?_⟩
     replace HO_11:=rb_ HO_11 hb
     have HO67:=am_ (Kd.R_lower (Kd.R_new' (Kd.R_new' (Kd.R_new' ho0 (lt_ HO_33001)) (lt_ HO_46001)) (lt_ HO_63001)) (sz_ HB))
     replace HO_33001:=re_ HO_33001 ho0 hb
     replace HO_46001:=re_ HO_46001 ho0 hb
     replace HO_63001:=re_ HO_63001 ho0 hb
     have HO72:=am_ (Kd.R_lower (Kd.R_new' (Kd.R_new' (Kd.R_new' ho1 (lt_ HO_33004)) (lt_ HO_46004)) (lt_ HO_63004)) (sz_ HB))
     replace HO_33004:=re_ HO_33004 ho1 hb
     replace HO_46004:=re_ HO_46004 ho1 hb
     replace HO_63004:=re_ HO_63004 ho1 hb
     replace BK1:=kl_ BK1 hb
     replace BK32:=kl_ BK32 hb
     replace BK45:=kl_ BK45 hb
     replace BK62:=kl_ BK62 hb
     replace HB:=ss_ HB hb
     clear hb ho0 ho1
     obtain ⟨Ao87,co87,eo87⟩:=Kd.R_slice HO67.out
     subst eo87
     obtain ⟨Ao88,co88,eo88⟩:=Kd.R_slice HO72.out
     subst eo88
     refine hK.out _ _ ⟨bc0_ BK45.out,bc1_ BK45.out,bc2_ BK45.out,bc3_ BK45.out,bc4_ BK45.out,bc5_ BK45.out,bc6_ BK45.out,bc7_ BK45.out,bc0_ BK1.out,bc1_ BK1.out,bc2_ BK1.out,bc3_ BK1.out,bc4_ BK1.out,bc5_ BK1.out,bc6_ BK1.out,bc7_ BK1.out⟩ (fun hHeld=>?_)
     clear hK K
     refine no_ 60 ?_
     refine one_ (i:=3) (N:=some 61) (lz_ 5 15) rfl rfl (by kernel_rfl) (by decide) (fun K hK=>?_)
     refine gf_ Tryz.func16 (laws_eqMirror.calls kj20 t33 _ _ t34 t37 t38 _ _ t39 t42 t43 t44 t64 _ _ t65 t68 t69 _ _ t70 t73 t74 t75 true _ (ch_ HO_46001) (cl_ HO_46001) (ch_ HO_46004) (cl_ HO_46004) (ch_ HO67) (cl_ HO67) (ch_ HO72) (cl_ HO72) A77.out) ?_
     rintro e w89 ⟨rfl,hb⟩
     refine ⟨_,rfl,?_⟩
     replace HO_11:=rb_ HO_11 hb
     replace HO_33001:=rb_ HO_33001 hb
     replace HO_33004:=rb_ HO_33004 hb
     replace HO_46001:=rb_ HO_46001 hb
     replace HO_46004:=rb_ HO_46004 hb
     replace HO_63001:=rb_ HO_63001 hb
     replace HO_63004:=rb_ HO_63004 hb
     replace HO67:=rb_ HO67 hb
     replace HO72:=rb_ HO72 hb
     replace BK1:=kl_ BK1 hb
     replace BK32:=kl_ BK32 hb
     replace BK45:=kl_ BK45 hb
     replace BK62:=kl_ BK62 hb
     replace HB:=ss_ HB hb
     clear hb
     refine hK.out _ _ ⟨bc0_ BK45.out,bc1_ BK45.out,bc2_ BK45.out,bc3_ BK45.out,bc4_ BK45.out,bc5_ BK45.out,bc6_ BK45.out,bc7_ BK45.out,bc0_ BK1.out,bc1_ BK1.out,bc2_ BK1.out,bc3_ BK1.out,bc4_ BK1.out,bc5_ BK1.out,bc6_ BK1.out,bc7_ BK1.out⟩ (fun hHeld=>?_)
     clear hK K
     refine no_ 61 ?_
     refine pk_ 4 62 31 ?_
     refine done_ (by kernel_rfl) ?_
     go_upto_region 21 with (first|((with_reducible refine gq_ 13 65 ?_);refine gc_ 65 Tryz.func13 (laws_toHeadS.calls kj20 _ _ l1 t77 _ (cb_ HR1 HB) HC1.out A79.out) ?_;rintro e w90 ⟨v78,rfl,ho0,hb⟩;refine ⟨_,rfl,?_⟩;replace HO_33001:=rb_ HO_33001 hb;replace HO_33004:=rb_ HO_33004 hb;replace HO_46001:=rb_ HO_46001 hb;replace HO_46004:=rb_ HO_46004 hb;replace HO_63001:=rb_ HO_63001 hb;replace HO_63004:=rb_ HO_63004 hb;replace HO67:=rb_ HO67 hb;replace HO72:=rb_ HO72 hb;have HO79:=am_ (Kd.R_lower (Kd.R_new' ho0 (lt_ HO_11)) (sz_ HB));replace HO_11:=re_ HO_11 ho0 hb;replace BK1:=kl_ BK1 hb;replace BK32:=kl_ BK32 hb;replace BK45:=kl_ BK45 hb;replace BK62:=kl_ BK62 hb;replace HB:=ss_ HB hb;clear hb ho0;obtain ⟨Ao91,co91,eo91⟩:=Kd.R_slice HO79.out;subst eo91)|((with_reducible refine gq_ 17 66 ?_);refine gc_ 66 Tryz.func17 (laws_eqHeadS.calls kj20 _ _ t46 _ _ t77 true _ (ch_ HO_11) (cl_ HO_11) (ch_ HO79) (cl_ HO79) A80.out) ?_;rintro e w92 ⟨rfl,hb⟩;refine ⟨_,rfl,?_⟩;replace HO_11:=rb_ HO_11 hb;replace HO_33001:=rb_ HO_33001 hb;replace HO_33004:=rb_ HO_33004 hb;replace HO_46001:=rb_ HO_46001 hb;replace HO_46004:=rb_ HO_46004 hb;replace HO_63001:=rb_ HO_63001 hb;replace HO_63004:=rb_ HO_63004 hb;replace HO67:=rb_ HO67 hb;replace HO72:=rb_ HO72 hb;replace HO79:=rb_ HO79 hb;replace BK1:=kl_ BK1 hb;replace BK32:=kl_ BK32 hb;replace BK45:=kl_ BK45 hb;replace BK62:=kl_ BK62 hb;replace HB:=ss_ HB hb;clear hb;have hnb93:=NB45_1.out;have hnc93:=NB1_45.out;have hnb94:=NB45_32.out;have hnc94:=NB32_45.out;have hnb95:=NB45_62.out;have hnc95:=NB62_45.out;have hcz96:=cz8_ BK45)|((with_reducible refine gq_ 18 70 ?_);refine gc_ 70 Tryz.func18 (laws_markMirror.calls kj20 t33 (fun k_=>some k_=(.slice Ao44 t34.length co44:Value).ownBlock) (.slice Ao44 t34.length co44) t34 t37 t38 (fun k_=>some k_=(.slice Ao45 t39.length co45:Value).ownBlock) (.slice Ao45 t39.length co45) t39 t42 t43 t44 1 t81 t82 t83 w _ (bw_ HB) (Kd.R_tight rfl HO_46001.out) (Kd.R_tight rfl HO_46004.out) A82.out) ?_;rintro e w97 ⟨rfl,hy0,hy1,hb,hkp⟩;refine ⟨_,rfl,?_⟩;replace HO_11:=am_ (Kd.R_mono (ok':=fun k_=>some k_ ≠ (.slice Ao91 t77.length co91:Value).ownBlock) (Kd.R_keptB ((Kd.R_apart' (Kd.R_apart' HO_11.out (Kd.R_typed HO_46001.out) (by decide)) (Kd.R_typed HO_46004.out) (by decide))) hkp (fun k_ hk_ hs_=>Or.elim hs_ (fun e_=>(hk_.1.2) e_) (fun e_=>(hk_.2) e_))) (fun k_ hk_=>hk_.1.1.1.2));replace HO_33001:=am_ (Kd.R_mono (ok':=fun k_=>some k_ ≠ (.slice Ao44 t34.length co44:Value).ownBlock∧some k_ ≠ (.slice Ao55 t50.length co55:Value).ownBlock∧some k_ ≠ (.slice Ao87 t65.length co87:Value).ownBlock) (Kd.R_keptB ((Kd.R_apart' HO_33001.out (Kd.R_typed HO_46004.out) (by decide))) hkp (fun k_ hk_ hs_=>Or.elim hs_ (fun e_=>(hk_.1.1.1) e_) (fun e_=>(hk_.2) e_))) (fun k_ hk_=>⟨hk_.1.1.1.1,hk_.1.1.1.2,hk_.1.1.2⟩));replace HO_33004:=am_ (Kd.R_mono (ok':=fun k_=>some k_ ≠ (.slice Ao45 t39.length co45:Value).ownBlock∧some k_ ≠ (.slice Ao56 t55.length co56:Value).ownBlock∧some k_ ≠ (.slice Ao88 t70.length co88:Value).ownBlock) (Kd.R_keptB ((Kd.R_apart' HO_33004.out (Kd.R_typed HO_46001.out) (by decide))) hkp (fun k_ hk_ hs_=>Or.elim hs_ (fun e_=>(hk_.2) e_) (fun e_=>(hk_.1.1.1) e_))) (fun k_ hk_=>⟨hk_.1.1.1.1,hk_.1.1.1.2,hk_.1.1.2⟩));replace HO_63001:=am_ (Kd.R_mono (ok':=fun k_=>some k_ ≠ (.slice Ao36 t20.length co36:Value).ownBlock∧some k_ ≠ (.slice Ao44 t34.length co44:Value).ownBlock∧some k_ ≠ (.slice Ao87 t65.length co87:Value).ownBlock) (Kd.R_keptB ((Kd.R_apart' HO_63001.out (Kd.R_typed HO_46004.out) (by decide))) hkp (fun k_ hk_ hs_=>Or.elim hs_ (fun e_=>(hk_.1.1.2) e_) (fun e_=>(hk_.2) e_))) (fun k_ hk_=>⟨hk_.1.1.1.1,hk_.1.1.1.2,hk_.1.1.2⟩));replace HO_63004:=am_ (Kd.R_mono (ok':=fun k_=>some k_ ≠ (.slice Ao37 t25.length co37:Value).ownBlock∧some k_ ≠ (.slice Ao45 t39.length co45:Value).ownBlock∧some k_ ≠ (.slice Ao88 t70.length co88:Value).ownBlock) (Kd.R_keptB ((Kd.R_apart' HO_63004.out (Kd.R_typed HO_46001.out) (by decide))) hkp (fun k_ hk_ hs_=>Or.elim hs_ (fun e_=>(hk_.2) e_) (fun e_=>(hk_.1.1.2) e_))) (fun k_ hk_=>⟨hk_.1.1.1.1,hk_.1.1.1.2,hk_.1.1.2⟩));replace BK1:=am_ (blk_kept (kb_ BK1.out) hkp (fun hs_=>Or.elim hs_ (fun e_=>(fun e_=>(Kd.R_ne HO_46001.out BK1.out (by decide)) e_) e_) (fun e_=>(fun e_=>(Kd.R_ne HO_46004.out BK1.out (by decide)) e_) e_)));replace BK32:=am_ (blk_kept (kb_ BK32.out) hkp (fun hs_=>Or.elim hs_ (fun e_=>(fun e_=>(Kd.R_ne HO_46001.out BK32.out (by decide)) e_) e_) (fun e_=>(fun e_=>(Kd.R_ne HO_46004.out BK32.out (by decide)) e_) e_)));replace BK45:=am_ (blk_kept (kb_ BK45.out) hkp (fun hs_=>Or.elim hs_ (fun e_=>(fun e_=>(Kd.R_ne HO_46001.out BK45.out (by decide)) e_) e_) (fun e_=>(fun e_=>(Kd.R_ne HO_46004.out BK45.out (by decide)) e_) e_)));replace BK62:=am_ (blk_kept (kb_ BK62.out) hkp (fun hs_=>Or.elim hs_ (fun e_=>(fun e_=>(Kd.R_ne HO_46001.out BK62.out (by decide)) e_) e_) (fun e_=>(fun e_=>(Kd.R_ne HO_46004.out BK62.out (by decide)) e_) e_)));replace HO67:=am_ (Kd.R_mono (ok':=fun k_=>some k_ ≠ (.slice Ao36 t20.length co36:Value).ownBlock∧some k_ ≠ (.slice Ao44 t34.length co44:Value).ownBlock∧some k_ ≠ (.slice Ao55 t50.length co55:Value).ownBlock) (Kd.R_keptB ((Kd.R_apart' HO67.out (Kd.R_typed HO_46004.out) (by decide))) hkp (fun k_ hk_ hs_=>Or.elim hs_ (fun e_=>(hk_.1.1.2) e_) (fun e_=>(hk_.2) e_))) (fun k_ hk_=>⟨hk_.1.1.1.1.2,hk_.1.1.1.2,hk_.1.1.2⟩));replace HO72:=am_ (Kd.R_mono (ok':=fun k_=>some k_ ≠ (.slice Ao37 t25.length co37:Value).ownBlock∧some k_ ≠ (.slice Ao45 t39.length co45:Value).ownBlock∧some k_ ≠ (.slice Ao56 t55.length co56:Value).ownBlock) (Kd.R_keptB ((Kd.R_apart' HO72.out (Kd.R_typed HO_46001.out) (by decide))) hkp (fun k_ hk_ hs_=>Or.elim hs_ (fun e_=>(hk_.2) e_) (fun e_=>(hk_.1.1.2) e_))) (fun k_ hk_=>⟨hk_.1.1.1.1.2,hk_.1.1.1.2,hk_.1.1.2⟩));replace HO79:=am_ (Kd.R_mono (ok':=fun k_=>some k_ ≠ (.slice Ao48 t46.length co48:Value).ownBlock) (Kd.R_keptB ((Kd.R_apart' (Kd.R_apart' HO79.out (Kd.R_typed HO_46001.out) (by decide)) (Kd.R_typed HO_46004.out) (by decide))) hkp (fun k_ hk_ hs_=>Or.elim hs_ (fun e_=>(hk_.1.2) e_) (fun e_=>(hk_.2) e_))) (fun k_ hk_=>hk_.1.1.1.2));replace HO_46001:=am_ (Kd.R_reok rfl hy0 (fun k_ e_=>HO_46001.out.1 k_ e_));replace HO_46004:=am_ (Kd.R_reok rfl hy1 (fun k_ e_=>HO_46004.out.1 k_ e_));replace HB:=am_ hb;clear hb hkp hy0 hy1)|((with_reducible refine gq_ 19 73 ?_);refine gc_ 73 Tryz.func19 (laws_markHeadS.calls kj20 (fun k_=>some k_=(.slice Ao48 t46.length co48:Value).ownBlock) (.slice Ao48 t46.length co48) t46 t81 t84 t85 w _ (bw_ HB) (Kd.R_tight rfl HO_11.out) A83.out) ?_;rintro e w98 ⟨rfl,hy0,hb,hkp⟩;refine ⟨_,rfl,?_⟩;replace HO_33001:=am_ (Kd.R_mono (ok':=fun k_=>some k_ ≠ (.slice Ao44 t34.length co44:Value).ownBlock∧some k_ ≠ (.slice Ao55 t50.length co55:Value).ownBlock∧some k_ ≠ (.slice Ao87 t65.length co87:Value).ownBlock) (Kd.R_keptB ((Kd.R_apart' HO_33001.out (Kd.R_typed HO_11.out) (by decide))) hkp (fun k_ hk_ hs_=>(hk_.2) hs_)) (fun k_ hk_=>⟨hk_.1.1.1,hk_.1.1.2.1,hk_.1.1.2.2⟩));replace HO_33004:=am_ (Kd.R_mono (ok':=fun k_=>some k_ ≠ (.slice Ao45 t39.length co45:Value).ownBlock∧some k_ ≠ (.slice Ao56 t55.length co56:Value).ownBlock∧some k_ ≠ (.slice Ao88 t70.length co88:Value).ownBlock) (Kd.R_keptB ((Kd.R_apart' HO_33004.out (Kd.R_typed HO_11.out) (by decide))) hkp (fun k_ hk_ hs_=>(hk_.2) hs_)) (fun k_ hk_=>⟨hk_.1.1.1,hk_.1.1.2.1,hk_.1.1.2.2⟩));replace HO_46001:=am_ (Kd.R_mono (ok':=fun k_=>some k_ ≠ (.slice Ao36 t20.length co36:Value).ownBlock∧some k_ ≠ (.slice Ao55 t50.length co55:Value).ownBlock∧some k_ ≠ (.slice Ao87 t65.length co87:Value).ownBlock) (Kd.R_keptB ((Kd.R_apart' HO_46001.out (Kd.R_typed HO_11.out) (by decide))) hkp (fun k_ hk_ hs_=>(hk_.2) hs_)) (fun k_ hk_=>⟨hk_.1.1.1.1,hk_.1.1.1.2,hk_.1.1.2⟩));replace HO_46004:=am_ (Kd.R_mono (ok':=fun k_=>some k_ ≠ (.slice Ao37 t25.length co37:Value).ownBlock∧some k_ ≠ (.slice Ao56 t55.length co56:Value).ownBlock∧some k_ ≠ (.slice Ao88 t70.length co88:Value).ownBlock) (Kd.R_keptB ((Kd.R_apart' HO_46004.out (Kd.R_typed HO_11.out) (by decide))) hkp (fun k_ hk_ hs_=>(hk_.2) hs_)) (fun k_ hk_=>⟨hk_.1.1.1.1,hk_.1.1.1.2,hk_.1.1.2⟩));replace HO_63001:=am_ (Kd.R_mono (ok':=fun k_=>some k_ ≠ (.slice Ao36 t20.length co36:Value).ownBlock∧some k_ ≠ (.slice Ao44 t34.length co44:Value).ownBlock∧some k_ ≠ (.slice Ao87 t65.length co87:Value).ownBlock) (Kd.R_keptB ((Kd.R_apart' HO_63001.out (Kd.R_typed HO_11.out) (by decide))) hkp (fun k_ hk_ hs_=>(hk_.2) hs_)) (fun k_ hk_=>⟨hk_.1.1.1,hk_.1.1.2.1,hk_.1.1.2.2⟩));replace HO_63004:=am_ (Kd.R_mono (ok':=fun k_=>some k_ ≠ (.slice Ao37 t25.length co37:Value).ownBlock∧some k_ ≠ (.slice Ao45 t39.length co45:Value).ownBlock∧some k_ ≠ (.slice Ao88 t70.length co88:Value).ownBlock) (Kd.R_keptB ((Kd.R_apart' HO_63004.out (Kd.R_typed HO_11.out) (by decide))) hkp (fun k_ hk_ hs_=>(hk_.2) hs_)) (fun k_ hk_=>⟨hk_.1.1.1,hk_.1.1.2.1,hk_.1.1.2.2⟩));replace BK1:=am_ (blk_kept (kb_ BK1.out) hkp (fun hs_=>(fun e_=>(Kd.R_ne HO_11.out BK1.out (by decide)) e_) hs_));replace BK32:=am_ (blk_kept (kb_ BK32.out) hkp (fun hs_=>(fun e_=>(Kd.R_ne HO_11.out BK32.out (by decide)) e_) hs_));replace BK45:=am_ (blk_kept (kb_ BK45.out) hkp (fun hs_=>(fun e_=>(Kd.R_ne HO_11.out BK45.out (by decide)) e_) hs_));replace BK62:=am_ (blk_kept (kb_ BK62.out) hkp (fun hs_=>(fun e_=>(Kd.R_ne HO_11.out BK62.out (by decide)) e_) hs_));replace HO67:=am_ (Kd.R_mono (ok':=fun k_=>some k_ ≠ (.slice Ao36 t20.length co36:Value).ownBlock∧some k_ ≠ (.slice Ao44 t34.length co44:Value).ownBlock∧some k_ ≠ (.slice Ao55 t50.length co55:Value).ownBlock) (Kd.R_keptB ((Kd.R_apart' HO67.out (Kd.R_typed HO_11.out) (by decide))) hkp (fun k_ hk_ hs_=>(hk_.2) hs_)) (fun k_ hk_=>⟨hk_.1.1.1,hk_.1.1.2.1,hk_.1.1.2.2⟩));replace HO72:=am_ (Kd.R_mono (ok':=fun k_=>some k_ ≠ (.slice Ao37 t25.length co37:Value).ownBlock∧some k_ ≠ (.slice Ao45 t39.length co45:Value).ownBlock∧some k_ ≠ (.slice Ao56 t55.length co56:Value).ownBlock) (Kd.R_keptB ((Kd.R_apart' HO72.out (Kd.R_typed HO_11.out) (by decide))) hkp (fun k_ hk_ hs_=>(hk_.2) hs_)) (fun k_ hk_=>⟨hk_.1.1.1,hk_.1.1.2.1,hk_.1.1.2.2⟩));replace HO_11:=am_ (Kd.R_reok rfl hy0 (fun k_ e_=>HO_11.out.1 k_ e_));replace HO79:=am_ (Kd.R_mono (ok':=fun k_=>some k_ ≠ (.slice Ao48 t46.length co48:Value).ownBlock) (Kd.R_keptB (HO79.out) hkp (fun k_ hk_ hs_=>(hk_) hs_)) (fun k_ hk_=>hk_.1));replace HB:=am_ hb;clear hb hkp hy0))
     (try simp only [Act.put,List.setIfInBounds_toArray,List.set_cons_zero,List.set_cons_succ])
     go_cut [86] (fun v86 wc=>∃ (kq:Nat) (x86_83:Bool),v86 = .bool x86_83∧Aside0 (laws_FnExactCrashMirror.j1 kq l1 a2 t31 x86_83 a0_0 l0_1 a0_2 a0_3 l0_4 a0_5 a0_6 a0_7 t19 t20 t23 t24 t25 t28 t29 t30 t49 t50 t53 t54 t55 t58 t59 t60=some r)∧Aside0 (kq≤kj20)∧Aside0 (Kd.R Kd.string 9 wc w.heap.size (fun k_=>some k_ ≠ ((.slice Ao44 t34.length co44):Value).ownBlock∧some k_ ≠ ((.slice Ao55 t50.length co55):Value).ownBlock) (.slice Ao36 t20.length co36) t20)∧Aside0 (Kd.R (Kd.int .u8) 5 wc w.heap.size (fun k_=>some k_ ≠ ((.slice Ao45 t39.length co45):Value).ownBlock∧some k_ ≠ ((.slice Ao56 t55.length co56):Value).ownBlock) (.slice Ao37 t25.length co37) t25)∧Aside0 (Kd.R Kd.string 9 wc w.heap.size (fun k_=>some k_ ≠ ((.slice Ao36 t20.length co36):Value).ownBlock∧some k_ ≠ ((.slice Ao55 t50.length co55):Value).ownBlock) (.slice Ao44 t34.length co44) t82)∧Aside0 (Kd.R (Kd.int .u8) 5 wc w.heap.size (fun k_=>some k_ ≠ ((.slice Ao37 t25.length co37):Value).ownBlock∧some k_ ≠ ((.slice Ao56 t55.length co56):Value).ownBlock) (.slice Ao45 t39.length co45) t83)∧Aside0 (Kd.R Kd.string 9 wc w.heap.size (fun k_=>some k_ ≠ ((.slice Ao36 t20.length co36):Value).ownBlock∧some k_ ≠ ((.slice Ao44 t34.length co44):Value).ownBlock) (.slice Ao55 t50.length co55) t50)∧Aside0 (Kd.R (Kd.int .u8) 5 wc w.heap.size (fun k_=>some k_ ≠ ((.slice Ao37 t25.length co37):Value).ownBlock∧some k_ ≠ ((.slice Ao45 t39.length co45):Value).ownBlock) (.slice Ao56 t55.length co56) t55)∧Aside0 (wc.heap[gb1]?=some (.cells #[.int .i64 a0_0,(.slice A0_1 l0_1.length c0_1),.int .i64 a0_2,.string a0_3,(.slice A0_4 l0_4.length c0_4),.int .i64 a0_5,.int .i64 a0_6,.string a0_7] 31 (0,0)))∧Aside0 (wc.heap[gb32]?=some (.cells #[.int .i64 t19,(.slice Ao36 t20.length co36),.int .i64 t23,.string t24,(.slice Ao37 t25.length co37),.int .i64 t28,.int .i64 t29,.string t30] 43 (0,0)))∧Aside0 (wc.heap[gb45]?=some (.cells #[.int .i64 t33,(.slice Ao44 t34.length co44),.int .i64 t37,.string t38,(.slice Ao45 t39.length co45),.int .i64 t42,.int .i64 t43,.string t44] 43 (0,0)))∧Aside0 (wc.heap[gb62]?=some (.cells #[.int .i64 t49,(.slice Ao55 t50.length co55),.int .i64 t53,.string t54,(.slice Ao56 t55.length co56),.int .i64 t58,.int .i64 t59,.string t60] 43 (0,0)))∧Aside0 (Below w.heap.size w wc))
     case first =>
      have H:=HC84.out
      clear HC84
      replace H:=itd_ H;obtain ⟨c99b0,H⟩|⟨c99b0,H⟩:=H
      ·(first | rw [c99b0]|(simp only [i64_w,i32_w];rw [c99b0])|skip)
       have H':=am_ H
       clear H
       go_wp2
       go_meet
       case rel => exact ⟨_,(true),e1_,H',⟨by have:=HJ20.out;first|omega|exact Nat.le_refl _⟩,⟨kr_ (Kd.R_mono HO_33001.out (fun _ hk=>⟨hk.1,hk.2.1⟩))⟩,⟨kr_ (Kd.R_mono HO_33004.out (fun _ hk=>⟨hk.1,hk.2.1⟩))⟩,⟨kr_ (Kd.R_mono HO_46001.out (fun _ hk=>⟨hk.1,hk.2.1⟩))⟩,⟨kr_ (Kd.R_mono HO_46004.out (fun _ hk=>⟨hk.1,hk.2.1⟩))⟩,⟨kr_ (Kd.R_mono HO_63001.out (fun _ hk=>⟨hk.1,hk.2.1⟩))⟩,⟨kr_ (Kd.R_mono HO_63004.out (fun _ hk=>⟨hk.1,hk.2.1⟩))⟩,⟨kb_ BK1.out⟩,⟨kb_ BK32.out⟩,⟨kb_ BK45.out⟩,⟨kb_ BK62.out⟩,⟨bw_ HB⟩⟩
      ·(first | rw [c99b0]|(simp only [i64_w,i32_w];rw [c99b0])|skip)
       replace H:=bi_ H;obtain ⟨t86,A100,H⟩:=H
       replace H:=itb_ H;obtain ⟨rfl,H⟩|⟨rfl,H⟩:=H
       ·have H':=am_ H
        clear H
        have hnb102:=NB62_1.out
        have hnc102:=NB1_62.out
        have hnb103:=NB62_32.out
        have hnc103:=NB32_62.out
        have hnb104:=NB62_45.out
        have hnc104:=NB45_62.out
        have hcz105:=cz8_ BK62
        have hnb106:=NB32_1.out
        have hnc106:=NB1_32.out
        have hnb107:=NB32_45.out
        have hnc107:=NB45_32.out
        have hcz108:=cz8_ BK32
        go_wp2_with (first|(go_at_call 16;(with_reducible refine (laws_eqMirror.calls kj20 t49 _ _ t50 t53 t54 _ _ t55 t58 t59 t60 t19 _ _ t20 t23 t24 _ _ t25 t28 t29 t30 true _ ?side1 ?side2 ?side3 ?side4 ?side5 ?side6 ?side7 ?side8 A100.out).mono ?_);(case side1=>exact ch_ HO_63001);(case side2=>exact (cl_ HO_63001));(case side3=>exact ch_ HO_63004);(case side4=>exact (cl_ HO_63004));(case side5=>exact ch_ HO_33001);(case side6=>exact (cl_ HO_33001));(case side7=>exact ch_ HO_33004);(case side8=>exact (cl_ HO_33004));rintro e w109 ⟨rfl,hb⟩;replace HO_11:=rb_ HO_11 hb;replace HO_33001:=rb_ HO_33001 hb;replace HO_33004:=rb_ HO_33004 hb;replace HO_46001:=rb_ HO_46001 hb;replace HO_46004:=rb_ HO_46004 hb;replace HO_63001:=rb_ HO_63001 hb;replace HO_63004:=rb_ HO_63004 hb;replace HO67:=rb_ HO67 hb;replace HO72:=rb_ HO72 hb;replace HO79:=rb_ HO79 hb;replace BK1:=kl_ BK1 hb;replace BK32:=kl_ BK32 hb;replace BK45:=kl_ BK45 hb;replace BK62:=kl_ BK62 hb;replace HB:=ss_ HB hb;clear hb))
        go_meet
        case rel => exact ⟨_,((t61 != t31)),e1_,H',⟨by have:=HJ20.out;first|omega|exact Nat.le_refl _⟩,⟨kr_ (Kd.R_mono HO_33001.out (fun _ hk=>⟨hk.1,hk.2.1⟩))⟩,⟨kr_ (Kd.R_mono HO_33004.out (fun _ hk=>⟨hk.1,hk.2.1⟩))⟩,⟨kr_ (Kd.R_mono HO_46001.out (fun _ hk=>⟨hk.1,hk.2.1⟩))⟩,⟨kr_ (Kd.R_mono HO_46004.out (fun _ hk=>⟨hk.1,hk.2.1⟩))⟩,⟨kr_ (Kd.R_mono HO_63001.out (fun _ hk=>⟨hk.1,hk.2.1⟩))⟩,⟨kr_ (Kd.R_mono HO_63004.out (fun _ hk=>⟨hk.1,hk.2.1⟩))⟩,⟨kb_ BK1.out⟩,⟨kb_ BK32.out⟩,⟨kb_ BK45.out⟩,⟨kb_ BK62.out⟩,⟨bw_ HB⟩⟩
       ·have H':=am_ H
        clear H
        have hnb110:=NB62_1.out
        have hnc110:=NB1_62.out
        have hnb111:=NB62_32.out
        have hnc111:=NB32_62.out
        have hnb112:=NB62_45.out
        have hnc112:=NB45_62.out
        have hcz113:=cz8_ BK62
        have hnb114:=NB32_1.out
        have hnc114:=NB1_32.out
        have hnb115:=NB32_45.out
        have hnc115:=NB45_32.out
        have hcz116:=cz8_ BK32
        go_wp2_with (first|(go_at_call 16;(with_reducible refine (laws_eqMirror.calls kj20 t49 _ _ t50 t53 t54 _ _ t55 t58 t59 t60 t19 _ _ t20 t23 t24 _ _ t25 t28 t29 t30 false _ ?side1 ?side2 ?side3 ?side4 ?side5 ?side6 ?side7 ?side8 A100.out).mono ?_);(case side1=>exact ch_ HO_63001);(case side2=>exact (cl_ HO_63001));(case side3=>exact ch_ HO_63004);(case side4=>exact (cl_ HO_63004));(case side5=>exact ch_ HO_33001);(case side6=>exact (cl_ HO_33001));(case side7=>exact ch_ HO_33004);(case side8=>exact (cl_ HO_33004));rintro e w117 ⟨rfl,hb⟩;replace HO_11:=rb_ HO_11 hb;replace HO_33001:=rb_ HO_33001 hb;replace HO_33004:=rb_ HO_33004 hb;replace HO_46001:=rb_ HO_46001 hb;replace HO_46004:=rb_ HO_46004 hb;replace HO_63001:=rb_ HO_63001 hb;replace HO_63004:=rb_ HO_63004 hb;replace HO67:=rb_ HO67 hb;replace HO72:=rb_ HO72 hb;replace HO79:=rb_ HO79 hb;replace BK1:=kl_ BK1 hb;replace BK32:=kl_ BK32 hb;replace BK45:=kl_ BK45 hb;replace BK62:=kl_ BK62 hb;replace HB:=ss_ HB hb;clear hb))
        go_meet
        case rel => exact ⟨_,(true),e1_,H',⟨by have:=HJ20.out;first|omega|exact Nat.le_refl _⟩,⟨kr_ (Kd.R_mono HO_33001.out (fun _ hk=>⟨hk.1,hk.2.1⟩))⟩,⟨kr_ (Kd.R_mono HO_33004.out (fun _ hk=>⟨hk.1,hk.2.1⟩))⟩,⟨kr_ (Kd.R_mono HO_46001.out (fun _ hk=>⟨hk.1,hk.2.1⟩))⟩,⟨kr_ (Kd.R_mono HO_46004.out (fun _ hk=>⟨hk.1,hk.2.1⟩))⟩,⟨kr_ (Kd.R_mono HO_63001.out (fun _ hk=>⟨hk.1,hk.2.1⟩))⟩,⟨kr_ (Kd.R_mono HO_63004.out (fun _ hk=>⟨hk.1,hk.2.1⟩))⟩,⟨kb_ BK1.out⟩,⟨kb_ BK32.out⟩,⟨kb_ BK45.out⟩,⟨kb_ BK62.out⟩,⟨bw_ HB⟩⟩
     case rest =>
      clear HC84
      try clear c1
      try clear p2
      try clear c7
      try clear c9
      try clear c10
      try clear c12
      try clear c13
      try clear c16
      try clear hz12
      try clear hz23
      try clear hz26
      try clear hz35
      try clear hz38
      try clear hz43
      try clear hz47
      try clear hz54
      try clear hz62
      try clear hz65
      try clear hz70
      try clear hz73
      try clear hz7
      obtain ⟨kq,x86_83,rfl,HA,HJ83,HO_33001,HO_33004,HO_46001,HO_46004,HO_63001,HO_63004,BK1,BK32,BK45,BK62,HB⟩:=hcut
      have hl46001_83:=(Kd.R_reads' HO_46001.out).1
      rw [hl46001_83] at HO_46001
      (try simp only [hl46001_83])
      (try simp only [hl46001_83] at BK1)
      (try simp only [hl46001_83] at BK32)
      (try simp only [hl46001_83] at BK45)
      (try simp only [hl46001_83] at BK62)
      (try simp only [hl46001_83] at HO_33001)
      (try simp only [hl46001_83] at HO_33004)
      (try simp only [hl46001_83] at HO_46004)
      (try simp only [hl46001_83] at HO_63001)
      (try simp only [hl46001_83] at HO_63004)
      have hl46004_83:=(Kd.R_reads' HO_46004.out).1
      rw [hl46004_83] at HO_46004
      (try simp only [hl46004_83])
      (try simp only [hl46004_83] at BK1)
      (try simp only [hl46004_83] at BK32)
      (try simp only [hl46004_83] at BK45)
      (try simp only [hl46004_83] at BK62)
      (try simp only [hl46004_83] at HO_33001)
      (try simp only [hl46004_83] at HO_33004)
      (try simp only [hl46004_83] at HO_46001)
      (try simp only [hl46004_83] at HO_63001)
      (try simp only [hl46004_83] at HO_63004)
      cases kq with
      | zero=>exact absurd HA.out (by simp [laws_FnExactCrashMirror.j1])
      | succ kj83 =>
       have H:=HA.out
       clear HA
       simp only [laws_FnExactCrashMirror.j1] at H
       replace H:=inb_ H;obtain ⟨rfl,H⟩:=H
       replace H:=bi_ H;obtain ⟨⟨t87,t88,t89⟩,A119,H⟩:=H
       dsimp only at H
       replace H:=bi_ H;obtain ⟨t90,A120,H⟩:=H
       replace H:=ind_ H;obtain ⟨c121b0,H⟩:=H
       replace H:=ip_ H;obtain ⟨c122,H⟩:=H
       have c122b0:(t90 == t87)=true:=beq_iff_eq.mpr c122
       have c122b1:(t90 != t87)=false:=bne_eq_false_iff_eq.mpr c122
       clear c122
       replace H:=bi_ H;obtain ⟨⟨t91,t92,t95,t96,t97,t700,t701,t702⟩,A123,H⟩:=H
       dsimp only at H
       replace H:=bi_ H;obtain ⟨t703,A124,H⟩:=H
       replace H:=bi_ H;obtain ⟨⟨t706,t707,t710,t711,t712,t715,t716,t717,t718⟩,A125,H⟩:=H
       dsimp only at H
       have HC126:=am_ H
       clear H
       have hnb127:=NB62_1.out
       have hnc127:=NB1_62.out
       have hnb128:=NB62_32.out
       have hnc128:=NB32_62.out
       have hnb129:=NB62_45.out
       have hnc129:=NB45_62.out
       have hcz130:=cz8_ BK62
       go_upto_region 32 with (first|((with_reducible refine gq_ 18 89 ?_);refine gc_ 89 Tryz.func18 (laws_markMirror.calls kj83 t49 (fun k_=>some k_=(.slice Ao55 t50.length co55:Value).ownBlock) (.slice Ao55 t50.length co55) t50 t53 t54 (fun k_=>some k_=(.slice Ao56 t55.length co56:Value).ownBlock) (.slice Ao56 t55.length co56) t55 t58 t59 t60 1 t87 t88 t89 w _ (bw_ HB) (Kd.R_tight rfl HO_63001.out) (Kd.R_tight rfl HO_63004.out) A119.out) ?_;rintro e w131 ⟨rfl,hy0,hy1,hb,hkp⟩;refine ⟨_,rfl,?_⟩;replace HO_33001:=am_ (Kd.R_mono (ok':=fun k_=>some k_ ≠ (.slice Ao44 t82.length co44:Value).ownBlock∧some k_ ≠ (.slice Ao55 t50.length co55:Value).ownBlock) (Kd.R_keptB ((Kd.R_apart' HO_33001.out (Kd.R_typed HO_63004.out) (by decide))) hkp (fun k_ hk_ hs_=>Or.elim hs_ (fun e_=>(hk_.1.2) e_) (fun e_=>(hk_.2) e_))) (fun k_ hk_=>⟨hk_.1.1.1,hk_.1.1.2⟩));replace HO_33004:=am_ (Kd.R_mono (ok':=fun k_=>some k_ ≠ (.slice Ao45 t83.length co45:Value).ownBlock∧some k_ ≠ (.slice Ao56 t55.length co56:Value).ownBlock) (Kd.R_keptB ((Kd.R_apart' HO_33004.out (Kd.R_typed HO_63001.out) (by decide))) hkp (fun k_ hk_ hs_=>Or.elim hs_ (fun e_=>(hk_.2) e_) (fun e_=>(hk_.1.2) e_))) (fun k_ hk_=>⟨hk_.1.1.1,hk_.1.1.2⟩));replace HO_46001:=am_ (Kd.R_mono (ok':=fun k_=>some k_ ≠ (.slice Ao36 t20.length co36:Value).ownBlock∧some k_ ≠ (.slice Ao55 t50.length co55:Value).ownBlock) (Kd.R_keptB ((Kd.R_apart' HO_46001.out (Kd.R_typed HO_63004.out) (by decide))) hkp (fun k_ hk_ hs_=>Or.elim hs_ (fun e_=>(hk_.1.2) e_) (fun e_=>(hk_.2) e_))) (fun k_ hk_=>⟨hk_.1.1.1,hk_.1.1.2⟩));replace HO_46004:=am_ (Kd.R_mono (ok':=fun k_=>some k_ ≠ (.slice Ao37 t25.length co37:Value).ownBlock∧some k_ ≠ (.slice Ao56 t55.length co56:Value).ownBlock) (Kd.R_keptB ((Kd.R_apart' HO_46004.out (Kd.R_typed HO_63001.out) (by decide))) hkp (fun k_ hk_ hs_=>Or.elim hs_ (fun e_=>(hk_.2) e_) (fun e_=>(hk_.1.2) e_))) (fun k_ hk_=>⟨hk_.1.1.1,hk_.1.1.2⟩));replace BK1:=am_ (blk_kept (kb_ BK1.out) hkp (fun hs_=>Or.elim hs_ (fun e_=>(fun e_=>(Kd.R_ne HO_63001.out BK1.out (by decide)) e_) e_) (fun e_=>(fun e_=>(Kd.R_ne HO_63004.out BK1.out (by decide)) e_) e_)));replace BK32:=am_ (blk_kept (kb_ BK32.out) hkp (fun hs_=>Or.elim hs_ (fun e_=>(fun e_=>(Kd.R_ne HO_63001.out BK32.out (by decide)) e_) e_) (fun e_=>(fun e_=>(Kd.R_ne HO_63004.out BK32.out (by decide)) e_) e_)));replace BK45:=am_ (blk_kept (kb_ BK45.out) hkp (fun hs_=>Or.elim hs_ (fun e_=>(fun e_=>(Kd.R_ne HO_63001.out BK45.out (by decide)) e_) e_) (fun e_=>(fun e_=>(Kd.R_ne HO_63004.out BK45.out (by decide)) e_) e_)));replace BK62:=am_ (blk_kept (kb_ BK62.out) hkp (fun hs_=>Or.elim hs_ (fun e_=>(fun e_=>(Kd.R_ne HO_63001.out BK62.out (by decide)) e_) e_) (fun e_=>(fun e_=>(Kd.R_ne HO_63004.out BK62.out (by decide)) e_) e_)));replace HO_63001:=am_ (Kd.R_reok rfl hy0 (fun k_ e_=>HO_63001.out.1 k_ e_));replace HO_63004:=am_ (Kd.R_reok rfl hy1 (fun k_ e_=>HO_63004.out.1 k_ e_));replace HB:=am_ hb;clear hb hkp hy0 hy1;have hcz132:=cz8_ BK62)|((with_reducible refine gk_ 31 ?_);refine gl_ 92 Tryz.func31 #[.agg #[.int .i64 t49,.slice Ao55 t88.length co55,.int .i64 t53,.string t54,.slice Ao56 t89.length co56,.int .i64 t58,.int .i64 t59,.string t60],.int .i64 1] ?_ (hargs:=(by (try simp only [List.map_toArray,List.map_cons,List.map_nil]);first|done|(rw [show t88.length=t50.length from (Kd.R_reads' HO_63001.out).1.symm,show t89.length=t55.length from (Kd.R_reads' HO_63004.out).1.symm] <;> rfl)|rfl|(simp only [List.length_drop,List.length_take];rfl)));(with_reducible refine (laws_heldMirror.calls kj83 t49 _ _ t88 t53 t54 _ _ t89 t58 t59 t60 1 t90 _ ?side1 ?side2 ?side3 ?side4 A120.out).mono ?_);(case side1=>exact ch_ HO_63001);(case side2=>rw [show t88.length=t50.length from (Kd.R_reads' HO_63001.out).1.symm];exact (cl_ HO_63001));(case side3=>exact ch_ HO_63004);(case side4=>rw [show t89.length=t55.length from (Kd.R_reads' HO_63004.out).1.symm];exact (cl_ HO_63004));rintro e w133 ⟨rfl,hb⟩;refine ⟨_,rfl,?_⟩;replace HO_33001:=rb_ HO_33001 hb;replace HO_33004:=rb_ HO_33004 hb;replace HO_46001:=rb_ HO_46001 hb;replace HO_46004:=rb_ HO_46004 hb;replace HO_63001:=rb_ HO_63001 hb;replace HO_63004:=rb_ HO_63004 hb;replace BK1:=kl_ BK1 hb;replace BK32:=kl_ BK32 hb;replace BK45:=kl_ BK45 hb;replace BK62:=kl_ BK62 hb;replace HB:=ss_ HB hb;clear hb;have hnb134:=NB1_32.out;have hnc134:=NB32_1.out;have hnb135:=NB1_45.out;have hnc135:=NB45_1.out;have hcz136:=cz8_ BK1)|((with_reducible refine gq_ 12 100 ?_);refine gc_ 100 Tryz.func12 (laws_toMirror.calls kj83 a0_0 _ _ l0_1 a0_2 a0_3 _ _ l0_4 a0_5 a0_6 a0_7 t91 t92 t95 t96 t97 t700 t701 t702 _ (cb_ HR0_1 HB) HC0_1.out (cb_ HR0_4 HB) HC0_4.out A123.out) ?_;rintro e w137 ⟨v93,v98,rfl,ho0,ho1,hb⟩;refine ⟨_,rfl,?_⟩;have HO94:=am_ (Kd.R_lower (Kd.R_new' (Kd.R_new' (Kd.R_new' ho0 (lt_ HO_33001)) (lt_ HO_46001)) (lt_ HO_63001)) (sz_ HB));replace HO_33001:=re_ HO_33001 ho0 hb;replace HO_46001:=re_ HO_46001 ho0 hb;replace HO_63001:=re_ HO_63001 ho0 hb;have HO99:=am_ (Kd.R_lower (Kd.R_new' (Kd.R_new' (Kd.R_new' ho1 (lt_ HO_33004)) (lt_ HO_46004)) (lt_ HO_63004)) (sz_ HB));replace HO_33004:=re_ HO_33004 ho1 hb;replace HO_46004:=re_ HO_46004 ho1 hb;replace HO_63004:=re_ HO_63004 ho1 hb;replace BK1:=kl_ BK1 hb;replace BK32:=kl_ BK32 hb;replace BK45:=kl_ BK45 hb;replace BK62:=kl_ BK62 hb;replace HB:=ss_ HB hb;clear hb ho0 ho1)|((with_reducible refine gq_ 13 102 ?_);refine gc_ 102 Tryz.func13 (laws_toHeadS.calls kj83 _ _ l1 t703 _ (cb_ HR1 HB) HC1.out A124.out) ?_;rintro e w138 ⟨v704,rfl,ho0,hb⟩;refine ⟨_,rfl,?_⟩;replace HO_33001:=rb_ HO_33001 hb;replace HO_33004:=rb_ HO_33004 hb;replace HO_46001:=rb_ HO_46001 hb;replace HO_46004:=rb_ HO_46004 hb;replace HO_63001:=rb_ HO_63001 hb;replace HO_63004:=rb_ HO_63004 hb;replace HO94:=rb_ HO94 hb;replace HO99:=rb_ HO99 hb;have HO705:=rlo_ ho0 HB;replace BK1:=kl_ BK1 hb;replace BK32:=kl_ BK32 hb;replace BK45:=kl_ BK45 hb;replace BK62:=kl_ BK62 hb;replace HB:=ss_ HB hb;clear hb ho0;obtain ⟨Ao139,co139,eo139⟩:=Kd.R_slice HO94.out;subst eo139;obtain ⟨Ao140,co140,eo140⟩:=Kd.R_slice HO99.out;subst eo140;obtain ⟨Ao141,co141,eo141⟩:=Kd.R_slice HO705.out;subst eo141)|((with_reducible refine gq_ 24 104 ?_);refine gc_ 104 Tryz.func24 (impl_CrashMirror.calls kj83 t91 _ _ t92 t95 t96 _ _ t97 t700 t701 t702 _ _ t703 a2 t706 t707 t710 t711 t712 t715 t716 t717 t718 _ (ch_ HO94) (cl_ HO94) (ch_ HO99) (cl_ HO99) (ch_ HO705) (cl_ HO705) A125.out) ?_;rintro e w142 ⟨v708,v713,rfl,ho0,ho1,hb⟩;refine ⟨_,rfl,?_⟩;replace HO705:=rb_ HO705 hb;have HO709:=am_ (Kd.R_lower (Kd.R_new' (Kd.R_new' (Kd.R_new' (Kd.R_new' ho0 (lt_ HO_33001)) (lt_ HO_46001)) (lt_ HO_63001)) (lt_ HO94)) (sz_ HB));replace HO_33001:=re_ HO_33001 ho0 hb;replace HO_46001:=re_ HO_46001 ho0 hb;replace HO_63001:=re_ HO_63001 ho0 hb;replace HO94:=re_ HO94 ho0 hb;have HO714:=am_ (Kd.R_lower (Kd.R_new' (Kd.R_new' (Kd.R_new' (Kd.R_new' ho1 (lt_ HO_33004)) (lt_ HO_46004)) (lt_ HO_63004)) (lt_ HO99)) (sz_ HB));replace HO_33004:=re_ HO_33004 ho1 hb;replace HO_46004:=re_ HO_46004 ho1 hb;replace HO_63004:=re_ HO_63004 ho1 hb;replace HO99:=re_ HO99 ho1 hb;replace BK1:=kl_ BK1 hb;replace BK32:=kl_ BK32 hb;replace BK45:=kl_ BK45 hb;replace BK62:=kl_ BK62 hb;replace HB:=ss_ HB hb;clear hb ho0 ho1)|((with_reducible refine gd_ 17 ?_);refine x43_ 17 ?_;intro gb719 hg w143 hbox hb;replace HO_33001:=rb_ HO_33001 hb;replace HO_33004:=rb_ HO_33004 hb;replace HO_46001:=rb_ HO_46001 hb;replace HO_46004:=rb_ HO_46004 hb;replace HO_63001:=rb_ HO_63001 hb;replace HO_63004:=rb_ HO_63004 hb;replace HO94:=rb_ HO94 hb;replace HO99:=rb_ HO99 hb;replace HO705:=rb_ HO705 hb;replace HO709:=rb_ HO709 hb;replace HO714:=rb_ HO714 hb;have BK719:=am_ hbox;have GW719:=gg_ hg HB;have GE719:=GW719;replace HB:=ss_ HB hb;have NB1_719:=nla_ hg BK1;have NB719_1:=nga_ hg BK1;replace BK1:=kl_ BK1 hb;have NB32_719:=nla_ hg BK32;have NB719_32:=nga_ hg BK32;replace BK32:=kl_ BK32 hb;have NB45_719:=nla_ hg BK45;have NB719_45:=nga_ hg BK45;replace BK45:=kl_ BK45 hb;have NB62_719:=nla_ hg BK62;have NB719_62:=nga_ hg BK62;replace BK62:=kl_ BK62 hb;clear hb hbox hg;have hnb144:=NB719_1.out;have hnc144:=NB1_719.out;have hnb145:=NB719_32.out;have hnc145:=NB32_719.out;have hnb146:=NB719_45.out;have hnc146:=NB45_719.out;have hnb147:=NB719_62.out;have hnc147:=NB62_719.out;have hcz148:=cz8_ BK719;obtain ⟨Ao149,co149,eo149⟩:=Kd.R_slice HO709.out;subst eo149;obtain ⟨Ao150,co150,eo150⟩:=Kd.R_slice HO714.out;subst eo150))
       (try simp only [Act.put,List.setIfInBounds_toArray,List.set_cons_zero,List.set_cons_succ])
       go_cut [115] (fun v115 wc=>∃ (kq:Nat) (x115_125:Bool),v115 = .bool x115_125∧Aside0 (laws_FnExactCrashMirror.j2 kq t87 x115_125 t49 t88 t53 t54 t89 t58 t59 t60=some r)∧Aside0 (kq≤kj83)∧Aside0 (Kd.R Kd.string 9 wc w.heap.size (fun k_=>some k_ ≠ ((.slice Ao44 t82.length co44):Value).ownBlock∧some k_ ≠ ((.slice Ao55 t50.length co55):Value).ownBlock∧some k_ ≠ ((.slice Ao149 t707.length co149):Value).ownBlock) (.slice Ao36 t20.length co36) t20)∧Aside0 (Kd.R (Kd.int .u8) 5 wc w.heap.size (fun k_=>some k_ ≠ ((.slice Ao45 t83.length co45):Value).ownBlock∧some k_ ≠ ((.slice Ao56 t55.length co56):Value).ownBlock∧some k_ ≠ ((.slice Ao150 t712.length co150):Value).ownBlock) (.slice Ao37 t25.length co37) t25)∧Aside0 (Kd.R Kd.string 9 wc w.heap.size (fun k_=>some k_ ≠ ((.slice Ao36 t20.length co36):Value).ownBlock∧some k_ ≠ ((.slice Ao55 t50.length co55):Value).ownBlock∧some k_ ≠ ((.slice Ao149 t707.length co149):Value).ownBlock) (.slice Ao44 t82.length co44) t82)∧Aside0 (Kd.R (Kd.int .u8) 5 wc w.heap.size (fun k_=>some k_ ≠ ((.slice Ao37 t25.length co37):Value).ownBlock∧some k_ ≠ ((.slice Ao56 t55.length co56):Value).ownBlock∧some k_ ≠ ((.slice Ao150 t712.length co150):Value).ownBlock) (.slice Ao45 t83.length co45) t83)∧Aside0 (Kd.R Kd.string 9 wc w.heap.size (fun k_=>some k_ ≠ ((.slice Ao36 t20.length co36):Value).ownBlock∧some k_ ≠ ((.slice Ao44 t82.length co44):Value).ownBlock∧some k_ ≠ ((.slice Ao149 t707.length co149):Value).ownBlock) (.slice Ao55 t50.length co55) t88)∧Aside0 (Kd.R (Kd.int .u8) 5 wc w.heap.size (fun k_=>some k_ ≠ ((.slice Ao37 t25.length co37):Value).ownBlock∧some k_ ≠ ((.slice Ao45 t83.length co45):Value).ownBlock∧some k_ ≠ ((.slice Ao150 t712.length co150):Value).ownBlock) (.slice Ao56 t55.length co56) t89)∧Aside0 (Kd.R Kd.string 9 wc w.heap.size (fun k_=>some k_ ≠ ((.slice Ao36 t20.length co36):Value).ownBlock∧some k_ ≠ ((.slice Ao44 t82.length co44):Value).ownBlock∧some k_ ≠ ((.slice Ao55 t50.length co55):Value).ownBlock) (.slice Ao149 t707.length co149) t707)∧Aside0 (Kd.R (Kd.int .u8) 5 wc w.heap.size (fun k_=>some k_ ≠ ((.slice Ao37 t25.length co37):Value).ownBlock∧some k_ ≠ ((.slice Ao45 t83.length co45):Value).ownBlock∧some k_ ≠ ((.slice Ao56 t55.length co56):Value).ownBlock) (.slice Ao150 t712.length co150) t712)∧Aside0 (wc.heap[gb1]?=some (.cells #[.int .i64 a0_0,(.slice A0_1 l0_1.length c0_1),.int .i64 a0_2,.string a0_3,(.slice A0_4 l0_4.length c0_4),.int .i64 a0_5,.int .i64 a0_6,.string a0_7] 31 (0,0)))∧Aside0 (wc.heap[gb32]?=some (.cells #[.int .i64 t19,(.slice Ao36 t20.length co36),.int .i64 t23,.string t24,(.slice Ao37 t25.length co37),.int .i64 t28,.int .i64 t29,.string t30] 43 (0,0)))∧Aside0 (wc.heap[gb45]?=some (.cells #[.int .i64 t33,(.slice Ao44 t82.length co44),.int .i64 t37,.string t38,(.slice Ao45 t83.length co45),.int .i64 t42,.int .i64 t43,.string t44] 43 (0,0)))∧Aside0 (wc.heap[gb62]?=some (.cells #[.int .i64 t49,(.slice Ao55 t50.length co55),.int .i64 t53,.string t54,(.slice Ao56 t55.length co56),.int .i64 t58,.int .i64 t59,.string t60] 43 (0,0)))∧Aside0 (wc.heap[gb719]?=some (.cells #[.int .i64 t706,(.slice Ao149 t707.length co149),.int .i64 t710,.string t711,(.slice Ao150 t712.length co150),.int .i64 t715,.int .i64 t716,.string t717] 43 (0,0)))∧Aside0 (Below w.heap.size w wc))
       case first =>
        have H:=HC126.out
        clear HC126
        replace H:=bi_ H;obtain ⟨t720,A151,H⟩:=H
        replace H:=itb_ H;obtain ⟨rfl,H⟩|⟨rfl,H⟩:=H
        ·have H':=am_ H
         clear H
         have hnb153:=NB719_1.out
         have hnc153:=NB1_719.out
         have hnb154:=NB719_32.out
         have hnc154:=NB32_719.out
         have hnb155:=NB719_45.out
         have hnc155:=NB45_719.out
         have hnb156:=NB719_62.out
         have hnc156:=NB62_719.out
         have hcz157:=cz8_ BK719
         have hnb158:=NB32_1.out
         have hnc158:=NB1_32.out
         have hnb159:=NB32_45.out
         have hnc159:=NB45_32.out
         have hnb160:=NB32_62.out
         have hnc160:=NB62_32.out
         have hcz161:=cz8_ BK32
         go_wp2_with (first|((with_reducible refine gq_ 16 109 ?_);refine gc_ 109 Tryz.func16 (laws_eqMirror.calls kj83 t706 _ _ t707 t710 t711 _ _ t712 t715 t716 t717 t19 _ _ t20 t23 t24 _ _ t25 t28 t29 t30 true _ (chf_ HO709 BK719) (cl_ HO709) (chf_ HO714 BK719) (cl_ HO714) (chf_ HO_33001 BK719) (cl_ HO_33001) (chf_ HO_33004 BK719) (cl_ HO_33004) A151.out) ?_;rintro e w162 ⟨rfl,hb⟩;refine ⟨_,rfl,?_⟩;replace HO_33001:=rbf_ HO_33001 BK719 hb;replace HO_33004:=rbf_ HO_33004 BK719 hb;replace HO_46001:=rbf_ HO_46001 BK719 hb;replace HO_46004:=rbf_ HO_46004 BK719 hb;replace HO_63001:=rbf_ HO_63001 BK719 hb;replace HO_63004:=rbf_ HO_63004 BK719 hb;replace HO94:=rbf_ HO94 BK719 hb;replace HO99:=rbf_ HO99 BK719 hb;replace HO705:=rbf_ HO705 BK719 hb;replace HO709:=rbf_ HO709 BK719 hb;replace HO714:=rbf_ HO714 BK719 hb;replace BK1:=kp_ BK1 hb;replace BK32:=kp_ BK32 hb;replace BK45:=kp_ BK45 hb;replace BK62:=kp_ BK62 hb;replace BK719:=kp_ BK719 hb;replace HB:=ss_ HB hb;clear hb))
         go_meet
         case rel => exact ⟨_,((t718 != t31)),e1_,H',⟨by have:=HJ20.out;have:=HJ83.out;first|omega|exact Nat.le_refl _⟩,⟨by (try simp only [hl46001_83]);(try simp only [hl46004_83]);(with_reducible repeat (first|apply Kd.R_alloc|apply Kd.R_drewN|apply Kd.R_drew));exact Kd.R_mono HO_33001.out (fun _ hk=>⟨hk.1.1.1,⟨hk.1.1.2,hk.2⟩⟩)⟩,⟨by (try simp only [hl46001_83]);(try simp only [hl46004_83]);(with_reducible repeat (first|apply Kd.R_alloc|apply Kd.R_drewN|apply Kd.R_drew));exact Kd.R_mono HO_33004.out (fun _ hk=>⟨hk.1.1.1,⟨hk.1.1.2,hk.2⟩⟩)⟩,⟨by (try simp only [hl46001_83]);(try simp only [hl46004_83]);(with_reducible repeat (first|apply Kd.R_alloc|apply Kd.R_drewN|apply Kd.R_drew));exact Kd.R_mono HO_46001.out (fun _ hk=>⟨hk.1.1.1,⟨hk.1.1.2,hk.2⟩⟩)⟩,⟨by (try simp only [hl46001_83]);(try simp only [hl46004_83]);(with_reducible repeat (first|apply Kd.R_alloc|apply Kd.R_drewN|apply Kd.R_drew));exact Kd.R_mono HO_46004.out (fun _ hk=>⟨hk.1.1.1,⟨hk.1.1.2,hk.2⟩⟩)⟩,⟨by (try simp only [hl46001_83]);(try simp only [hl46004_83]);(with_reducible repeat (first|apply Kd.R_alloc|apply Kd.R_drewN|apply Kd.R_drew));exact Kd.R_mono HO_63001.out (fun _ hk=>⟨hk.1.1.1,⟨hk.1.1.2,hk.2⟩⟩)⟩,⟨by (try simp only [hl46001_83]);(try simp only [hl46004_83]);(with_reducible repeat (first|apply Kd.R_alloc|apply Kd.R_drewN|apply Kd.R_drew));exact Kd.R_mono HO_63004.out (fun _ hk=>⟨hk.1.1.1,⟨hk.1.1.2,hk.2⟩⟩)⟩,⟨by (try simp only [hl46001_83]);(try simp only [hl46004_83]);(with_reducible repeat (first|apply Kd.R_alloc|apply Kd.R_drewN|apply Kd.R_drew));exact Kd.R_mono HO709.out (fun _ hk=>⟨hk.1.1.1.2,⟨hk.1.1.2,hk.1.2⟩⟩)⟩,⟨by (try simp only [hl46001_83]);(try simp only [hl46004_83]);(with_reducible repeat (first|apply Kd.R_alloc|apply Kd.R_drewN|apply Kd.R_drew));exact Kd.R_mono HO714.out (fun _ hk=>⟨hk.1.1.1.2,⟨hk.1.1.2,hk.1.2⟩⟩)⟩,⟨by (try simp only [hl46001_83]);(try simp only [hl46004_83]);refine kb_ ?_;exact BK1.out⟩,⟨by (try simp only [hl46001_83]);(try simp only [hl46004_83]);refine kb_ ?_;exact BK32.out⟩,⟨by (try simp only [hl46001_83]);(try simp only [hl46004_83]);refine kb_ ?_;exact BK45.out⟩,⟨by (try simp only [hl46001_83]);(try simp only [hl46004_83]);refine kb_ ?_;exact BK62.out⟩,⟨by (try simp only [hl46001_83]);(try simp only [hl46004_83]);refine kb_ ?_;exact BK719.out⟩,⟨bw_ HB⟩⟩
        ·have H':=am_ H
         clear H
         have hnb163:=NB719_1.out
         have hnc163:=NB1_719.out
         have hnb164:=NB719_32.out
         have hnc164:=NB32_719.out
         have hnb165:=NB719_45.out
         have hnc165:=NB45_719.out
         have hnb166:=NB719_62.out
         have hnc166:=NB62_719.out
         have hcz167:=cz8_ BK719
         have hnb168:=NB32_1.out
         have hnc168:=NB1_32.out
         have hnb169:=NB32_45.out
         have hnc169:=NB45_32.out
         have hnb170:=NB32_62.out
         have hnc170:=NB62_32.out
         have hcz171:=cz8_ BK32
         go_wp2_with (first|((with_reducible refine gq_ 16 109 ?_);refine gc_ 109 Tryz.func16 (laws_eqMirror.calls kj83 t706 _ _ t707 t710 t711 _ _ t712 t715 t716 t717 t19 _ _ t20 t23 t24 _ _ t25 t28 t29 t30 false _ (chf_ HO709 BK719) (cl_ HO709) (chf_ HO714 BK719) (cl_ HO714) (chf_ HO_33001 BK719) (cl_ HO_33001) (chf_ HO_33004 BK719) (cl_ HO_33004) A151.out) ?_;rintro e w172 ⟨rfl,hb⟩;refine ⟨_,rfl,?_⟩;replace HO_33001:=rbf_ HO_33001 BK719 hb;replace HO_33004:=rbf_ HO_33004 BK719 hb;replace HO_46001:=rbf_ HO_46001 BK719 hb;replace HO_46004:=rbf_ HO_46004 BK719 hb;replace HO_63001:=rbf_ HO_63001 BK719 hb;replace HO_63004:=rbf_ HO_63004 BK719 hb;replace HO94:=rbf_ HO94 BK719 hb;replace HO99:=rbf_ HO99 BK719 hb;replace HO705:=rbf_ HO705 BK719 hb;replace HO709:=rbf_ HO709 BK719 hb;replace HO714:=rbf_ HO714 BK719 hb;replace BK1:=kp_ BK1 hb;replace BK32:=kp_ BK32 hb;replace BK45:=kp_ BK45 hb;replace BK62:=kp_ BK62 hb;replace BK719:=kp_ BK719 hb;replace HB:=ss_ HB hb;clear hb))
         go_meet
         case rel => exact ⟨_,(true),e1_,H',⟨by have:=HJ20.out;have:=HJ83.out;first|omega|exact Nat.le_refl _⟩,⟨by (try simp only [hl46001_83]);(try simp only [hl46004_83]);(with_reducible repeat (first|apply Kd.R_alloc|apply Kd.R_drewN|apply Kd.R_drew));exact Kd.R_mono HO_33001.out (fun _ hk=>⟨hk.1.1.1,⟨hk.1.1.2,hk.2⟩⟩)⟩,⟨by (try simp only [hl46001_83]);(try simp only [hl46004_83]);(with_reducible repeat (first|apply Kd.R_alloc|apply Kd.R_drewN|apply Kd.R_drew));exact Kd.R_mono HO_33004.out (fun _ hk=>⟨hk.1.1.1,⟨hk.1.1.2,hk.2⟩⟩)⟩,⟨by (try simp only [hl46001_83]);(try simp only [hl46004_83]);(with_reducible repeat (first|apply Kd.R_alloc|apply Kd.R_drewN|apply Kd.R_drew));exact Kd.R_mono HO_46001.out (fun _ hk=>⟨hk.1.1.1,⟨hk.1.1.2,hk.2⟩⟩)⟩,⟨by (try simp only [hl46001_83]);(try simp only [hl46004_83]);(with_reducible repeat (first|apply Kd.R_alloc|apply Kd.R_drewN|apply Kd.R_drew));exact Kd.R_mono HO_46004.out (fun _ hk=>⟨hk.1.1.1,⟨hk.1.1.2,hk.2⟩⟩)⟩,⟨by (try simp only [hl46001_83]);(try simp only [hl46004_83]);(with_reducible repeat (first|apply Kd.R_alloc|apply Kd.R_drewN|apply Kd.R_drew));exact Kd.R_mono HO_63001.out (fun _ hk=>⟨hk.1.1.1,⟨hk.1.1.2,hk.2⟩⟩)⟩,⟨by (try simp only [hl46001_83]);(try simp only [hl46004_83]);(with_reducible repeat (first|apply Kd.R_alloc|apply Kd.R_drewN|apply Kd.R_drew));exact Kd.R_mono HO_63004.out (fun _ hk=>⟨hk.1.1.1,⟨hk.1.1.2,hk.2⟩⟩)⟩,⟨by (try simp only [hl46001_83]);(try simp only [hl46004_83]);(with_reducible repeat (first|apply Kd.R_alloc|apply Kd.R_drewN|apply Kd.R_drew));exact Kd.R_mono HO709.out (fun _ hk=>⟨hk.1.1.1.2,⟨hk.1.1.2,hk.1.2⟩⟩)⟩,⟨by (try simp only [hl46001_83]);(try simp only [hl46004_83]);(with_reducible repeat (first|apply Kd.R_alloc|apply Kd.R_drewN|apply Kd.R_drew));exact Kd.R_mono HO714.out (fun _ hk=>⟨hk.1.1.1.2,⟨hk.1.1.2,hk.1.2⟩⟩)⟩,⟨by (try simp only [hl46001_83]);(try simp only [hl46004_83]);refine kb_ ?_;exact BK1.out⟩,⟨by (try simp only [hl46001_83]);(try simp only [hl46004_83]);refine kb_ ?_;exact BK32.out⟩,⟨by (try simp only [hl46001_83]);(try simp only [hl46004_83]);refine kb_ ?_;exact BK45.out⟩,⟨by (try simp only [hl46001_83]);(try simp only [hl46004_83]);refine kb_ ?_;exact BK62.out⟩,⟨by (try simp only [hl46001_83]);(try simp only [hl46004_83]);refine kb_ ?_;exact BK719.out⟩,⟨bw_ HB⟩⟩
       case rest =>
        clear HC126
        try clear c1
        try clear c2
        try clear p2
        try clear c3
        try clear c7
        try clear c8
        try clear c9
        try clear c10
        try clear c11
        try clear c12
        try clear c13
        try clear c16
        try clear c17
        try clear c18
        try clear c19
        try clear c24
        try clear c75
        try clear c78
        try clear c81
        try clear c93
        try clear c94
        try clear c95
        try clear c99
        try clear c99b0
        try clear c101
        try clear c102
        try clear c103
        try clear c104
        try clear c106
        try clear c107
        try clear c110
        try clear c111
        try clear c112
        try clear c114
        try clear c115
        try clear c121b0
        try clear c122
        try clear c122b0
        try clear c122b1
        try clear hz105
        try clear hz108
        try clear hz113
        try clear hz116
        try clear hz12
        try clear hz23
        try clear hz26
        try clear hz35
        try clear hz38
        try clear hz43
        try clear hz47
        try clear hz54
        try clear hz62
        try clear hz65
        try clear hz70
        try clear hz73
        try clear hz7
        try clear hz96
        obtain ⟨kq,x115_125,rfl,HA,HJ125,HO_33001,HO_33004,HO_46001,HO_46004,HO_63001,HO_63004,HO_720001,HO_720004,BK1,BK32,BK45,BK62,BK719,HB⟩:=hcut
        have hl63001_125:=(Kd.R_reads' HO_63001.out).1
        rw [hl63001_125] at HO_63001
        (try simp only [hl63001_125])
        (try simp only [hl63001_125] at BK1)
        (try simp only [hl63001_125] at BK32)
        (try simp only [hl63001_125] at BK45)
        (try simp only [hl63001_125] at BK62)
        (try simp only [hl63001_125] at BK719)
        (try simp only [hl63001_125] at HO_33001)
        (try simp only [hl63001_125] at HO_33004)
        (try simp only [hl63001_125] at HO_46001)
        (try simp only [hl63001_125] at HO_46004)
        (try simp only [hl63001_125] at HO_63004)
        (try simp only [hl63001_125] at HO_720001)
        (try simp only [hl63001_125] at HO_720004)
        have hl63004_125:=(Kd.R_reads' HO_63004.out).1
        rw [hl63004_125] at HO_63004
        (try simp only [hl63004_125])
        (try simp only [hl63004_125] at BK1)
        (try simp only [hl63004_125] at BK32)
        (try simp only [hl63004_125] at BK45)
        (try simp only [hl63004_125] at BK62)
        (try simp only [hl63004_125] at BK719)
        (try simp only [hl63004_125] at HO_33001)
        (try simp only [hl63004_125] at HO_33004)
        (try simp only [hl63004_125] at HO_46001)
        (try simp only [hl63004_125] at HO_46004)
        (try simp only [hl63004_125] at HO_63001)
        (try simp only [hl63004_125] at HO_720001)
        (try simp only [hl63004_125] at HO_720004)
        cases kq with
        | zero=>exact absurd HA.out (by simp [laws_FnExactCrashMirror.j2])
        | succ kj125 =>
         have H:=HA.out
         clear HA
         simp only [laws_FnExactCrashMirror.j2] at H
         replace H:=inb_ H;obtain ⟨rfl,H⟩:=H
         replace H:=bi_ H;obtain ⟨t721,A174,H⟩:=H
         replace H:=ind_ H;obtain ⟨c175b0,H⟩:=H
         replace H:=ip_ H;obtain ⟨c176,H⟩:=H
         have c176b0:(t721 == t87)=true:=beq_iff_eq.mpr c176
         have c176b1:(t721 != t87)=false:=bne_eq_false_iff_eq.mpr c176
         clear c176
         obtain rfl:=Option.some.inj H
         have hnb177:=NB62_1.out
         have hnc177:=NB1_62.out
         have hnb178:=NB62_32.out
         have hnc178:=NB32_62.out
         have hnb179:=NB62_45.out
         have hnc179:=NB45_62.out
         have hnb180:=NB62_719.out
         have hnc180:=NB719_62.out
         have hcz181:=cz8_ BK62
         go_wp2_with (first|((with_reducible refine gq_ 31 118 ?_);refine gc_ 118 Tryz.func31 (laws_heldMirror.calls kj125 t49 _ _ t88 t53 t54 _ _ t89 t58 t59 t60 1 t721 _ (ch_ HO_63001) (cl_ HO_63001) (ch_ HO_63004) (cl_ HO_63004) A174.out) ?_;rintro e w182 ⟨rfl,hb⟩;refine ⟨_,rfl,?_⟩;replace HO_33001:=rb_ HO_33001 hb;replace HO_33004:=rb_ HO_33004 hb;replace HO_46001:=rb_ HO_46001 hb;replace HO_46004:=rb_ HO_46004 hb;replace HO_63001:=rb_ HO_63001 hb;replace HO_63004:=rb_ HO_63004 hb;replace HO_720001:=rb_ HO_720001 hb;replace HO_720004:=rb_ HO_720004 hb;replace BK1:=kl_ BK1 hb;replace BK32:=kl_ BK32 hb;replace BK45:=kl_ BK45 hb;replace BK62:=kl_ BK62 hb;replace BK719:=kl_ BK719 hb;replace HB:=ss_ HB hb;clear hb))
         go_ret
         exact ⟨e2_,bw_ HB⟩
end Go.Proofs.YtnlndmoecljicaaGreat.Q
end
section
namespace Go.Proofs.YtnlndmoecljicaaGreat.Q
open Go.RowKit Go.Proofs.YtnlndmoecljicaaGreat.XO Go.Proofs.YtnlndmoecljicaaGreatW.PrintWords Go.ChangeShapes Go.WideShapes Go.ChangeAt
def laws_FnExactCrashMirror.Pure:Prop:=∀ (x0:S31) (x1:List (S24)) (x2:Int),G31 x0->(x1.length≤9223372036854775807∧∀ y0 ∈ x1,G24 y0)->(Lit.int .i64 x2).wf=true->∃ k,laws_FnExactCrashMirror.f k x0.f0 x0.f1.f0.f0 x0.f1.f0.f1.f0 x0.f1.f0.f1.f1 x0.f1.f1 x0.f1.f2 x0.f2.f0 x0.f2.f1 x1 x2=some true
namespace RFnExactCrashMirror
theorem own:ownKnob Tryz.prog.godebug=none:=by kernel_rfl
theorem laidOut:laidOutB Tryz.prog=true:=by kernel_rfl
set_option maxRecDepth 100000 in
theorem lifted (PU:laws_FnExactCrashMirror.Pure) (os:Os) (started:os.Started) (H:Type) (enc:TypeId × Value->H) :
  ReturnsInHanded {} Tryz.checked os 5 .any (Rows.fnExactCrashMirrorSpec.pre6 enc Tryz.prog Tryz.f5 Rows.fnExactCrashMirrorRow.domain false) (Rows.fnExactCrashMirrorSpec.post enc Tryz.prog Tryz.f5 false true false false):=by
 refine returnsInHanded_of_change_sized (C:=Tryz.checked) own started (by kernel_rfl) Tryz.func5
  (ChangeSpec.witness6 (enc:=enc) (C:=Tryz.checked) false ⟨#[],#[.agg #[.int .i64 0,.slice none 0 0,.int .i64 0,.string ByteArray.empty,.slice none 0 0,.int .i64 0,.int .i64 0,.string ByteArray.empty],.slice none 0 0,.int .i64 0],[]⟩ 8 (by kernel_rfl) (by kernel_rfl) (by kernel_rfl) (by kernel_rfl)) ?_
 intro W base args ds gs before hval0 hW hcnd hsz0 _
 have hval:∀ (j:Nat) t v,Tryz.f5.params[j]?=some t->args[j]?=some v->Value.okWide Tryz.prog W .any base t v:=hval0
 have hW':=hW
 obtain ⟨p,q,hA0,hV,rfl,hfz,hnd⟩:=hW
 have hA:DataW.TrodAll enc Tryz.prog W 0 (fun _=>true) true Tryz.f5.params.toList args.toList ds p:=hA0
 rw [Tryz.params5] at hA hval
 obtain ⟨v0,vs0,d0,ds0,p0,q0,hargs,rfl,rfl,h0,r0⟩:=trodAll_cons hA
 obtain ⟨v1,vs1,d1,ds1,p1,q1,rfl,rfl,rfl,h1,r1⟩:=trodAll_cons r0
 obtain ⟨v2,vs2,d2,ds2,p2,q2,rfl,rfl,rfl,h2,r2⟩:=trodAll_cons r1
 obtain ⟨rfl,rfl,rfl⟩:=trodAll_nil r2
 obtain rfl:args=#[v0,v1,v2]:=by cases args;simp_all
 obtain ⟨rfl,rfl⟩:=trodVars_none hV
 have kk0:=h0
 have lt0:∀ x ∈ p0,x.block < W.heap.size:=by obtain ⟨m,hm⟩:=kk0;exact DataW.trod_lt m _ _ _ hm
 obtain ⟨cs0,rfl,_⟩:=okWide_struct Tryz.underlying31 (hval 0 31 v0 rfl rfl)
 obtain ⟨fu0,hf0⟩:=h0
 obtain ⟨x0,hK0,g0⟩:=opens31 hf0
 obtain ⟨A0_1,c0_1,A0_4,c0_4,he0,hc0_1,hr0_1,hc0_4,hr0_4⟩:=k31_open hK0
 obtain rfl:cs0=#[.int .i64 x0.f0,.slice A0_1 x0.f1.f0.f0.length c0_1,.int .i64 x0.f1.f0.f1.f0,.string x0.f1.f0.f1.f1,.slice A0_4 x0.f1.f1.length c0_4,.int .i64 x0.f1.f2,.int .i64 x0.f2.f0,.string x0.f2.f1]:=by cases cs0;simpa [Value.cells] using he0
 have kk1:=h1
 have lt1:∀ x ∈ p1,x.block < W.heap.size:=by obtain ⟨m,hm⟩:=kk1;exact DataW.trod_lt m _ _ _ hm
 obtain ⟨A1,len1,c1,rfl⟩:=okWide_slice Tryz.underlying32 (hval 1 32 v1 rfl rfl)
 obtain ⟨fu1,hf1⟩:=h1
 obtain ⟨x1,⟨A1',c1',he1,hc1,hr1⟩,g1⟩:=(opens_slice Tryz.underlying32 (by kernel_rfl) opens24) hf1
 obtain ⟨rfl,rfl,rfl⟩:A1=A1'∧len1=x1.length∧c1=c1':=by simpa [Value.cells] using he1
 have kk2:=h2
 have lt2:∀ x ∈ p2,x.block < W.heap.size:=by obtain ⟨m,hm⟩:=kk2;exact DataW.trod_lt m _ _ _ hm
 obtain ⟨x2,rfl,rfl,rfl,g2⟩:=open_int Tryz.underlying3 (hval 2 3 v2 rfl rfl) h2
 clear hA0 hval0 hsz0
 obtain ⟨k,hp⟩:=PU x0 x1 x2 g0 g1 g2
 refine (laws_FnExactCrashMirror.calls k x0.f0 _ _ x0.f1.f0.f0 x0.f1.f0.f1.f0 x0.f1.f0.f1.f1 _ _ x0.f1.f1 x0.f1.f2 x0.f2.f0 x0.f2.f1 _ _ x1 x2 true W hr0_1 hc0_1 hr0_4 hc0_4 hr1 hc1 hp).mono fun e W' ⟨he,bel0⟩=>?_
 have bel:Below W.heap.size W W':=bel0
 subst he
 exact ⟨_,rfl,_,_,_,[],_,[],hW',trodAll_mk1 (shut_bool Tryz.underlying4 _),(trodAll_cons_mk (Below.trod laidOut (by kernel_rfl) (of_decide_eq_true (by kernel_rfl)) kk0 bel lt0) (trodAll_cons_mk (Below.trod laidOut (by kernel_rfl) (of_decide_eq_true (by kernel_rfl)) kk1 bel lt1) (trodAll_cons_mk (Below.trod laidOut (by kernel_rfl) (of_decide_eq_true (by kernel_rfl)) kk2 bel lt2) trodAll_mk0))),rfl,bel.frame _,fun h=>by cases h⟩
theorem over (PU:laws_FnExactCrashMirror.Pure):Rows.fnExactCrashMirrorRow.holds Tryz.pinned (OpenSpec.ofChange Rows.fnExactCrashMirrorSpec) :=
 OpenClaim.holds_of_wide 5 Tryz.f5 rfl rfl rfl rfl rfl rfl rfl ⟨rfl,rfl,rfl,rfl,rfl⟩ rfl rfl rfl rfl rfl (by kernel_rfl) Tryz.func5 (by kernel_rfl)
  (of_decide_eq_true (by kernel_rfl)) (by unfold Func.isWrapper;first|(rw [if_pos (by decide +kernel)];kernel_rfl)|(rw [if_neg (by decide +kernel)];exact ⟨rfl,rfl⟩))
  (fun os started H enc _=>lifted PU os started H enc)
end RFnExactCrashMirror
theorem FnExactCrashMirror_row (PU:laws_FnExactCrashMirror.Pure):Rows.FnExactCrashMirrorSaid:=RFnExactCrashMirror.over PU
end Go.Proofs.YtnlndmoecljicaaGreat.Q
end
section
namespace Go.Proofs.YtnlndmoecljicaaGreat.Q
open Go.Proofs.YtnlndmoecljicaaGreat.B Go.Proofs.YtnlndmoecljicaaGreatW.PrintMore Go.Proofs.YtnlndmoecljicaaGreatW.PrintWords Go.RowKit
set_option maxHeartbeats 8000000
set_option maxRecDepth 100000
theorem bytesOf_range (s:ByteArray):∀ x ∈ bytesOf s,0≤x∧x≤255:=by
 intro x hx
 simp only [bytesOf,List.mem_map] at hx
 obtain ⟨b,_,rfl⟩:=hx
 have:=b.toNat_lt
 omega
def leafH (a:ByteArray):ByteArray:=sha (0 :: bytesOf a)
def nodeH (a b:ByteArray):ByteArray:=sha (1 :: (bytesOf a ++ bytesOf b))
theorem leafH_size (a:ByteArray):(leafH a).size=32:=sha_size _
theorem nodeH_size (a b:ByteArray):(nodeH a b).size=32:=sha_size _
theorem cons_range {c:Int} {l:List Int} (h0:0≤c∧c≤255) (h:∀ x ∈ l,0≤x∧x≤255):∀ x ∈ c :: l,0≤x∧x≤255:=by
 intro x hx
 rcases List.mem_cons.1 hx with rfl|hx
 ·exact h0
 ·exact h x hx
theorem impl_leaf (a:ByteArray) (h:a.size≤1099511627775):impl_LeafHash.f a=some (leafH a):=by
 unfold impl_LeafHash.f
 simp only [Option.bind_some,List.length_cons,List.length_nil]
 rw [if_pos (by omega)]
 have e:([0]:List Int) ++ bytesOf a=0 :: bytesOf a:=rfl
 rw [e,impl_Digest_is _ (by rw [List.length_cons,bytesOf_length];omega)]
 rfl
theorem impl_node (a b:ByteArray) (h:a.size+b.size≤1099511627775):impl_NodeHash.f a b=some (nodeH a b):=by
 unfold impl_NodeHash.f
 simp only [Option.bind_some,List.length_cons,List.length_nil]
 rw [if_pos (by omega),if_pos (by simp [bytesOf_length];omega)]
 have e:[1] ++ bytesOf a ++ bytesOf b=1 :: (bytesOf a ++ bytesOf b):=rfl
 rw [e,impl_Digest_is _ (by rw [List.length_cons,List.length_append,bytesOf_length,bytesOf_length];omega)]
 rfl
theorem spec_leaf (a:ByteArray) (h:a.size≤1099511627775):Ev (fun k=>spec_LeafHash.f k a) (leafH a):=by
 refine Ev.congr (fun k=>?_) (Ev.bind (spec_Digest_ev (0 :: bytesOf a) (by rw [List.length_cons,bytesOf_length];omega) (cons_range (by omega) (bytesOf_range a))) (Ev.now _))
 unfold spec_LeafHash.f
 simp only [Option.bind_some,List.length_cons,List.length_nil]
 rw [if_pos (by omega)]
 rfl
theorem spec_node (a b:ByteArray) (h:a.size+b.size≤1099511627775):Ev (fun k=>spec_NodeHash.f k a b) (nodeH a b):=by
 refine Ev.congr (fun k=>?_) (Ev.bind (spec_Digest_ev (1 :: (bytesOf a ++ bytesOf b)) (by rw [List.length_cons,List.length_append,bytesOf_length,bytesOf_length];omega) (cons_range (by omega) (fun x hx=>?_))) (Ev.now _))
 ·unfold spec_NodeHash.f
  simp only [Option.bind_some,List.length_cons,List.length_nil]
  rw [if_pos (by omega),if_pos (by simp [bytesOf_length];omega)]
  rfl
 ·rcases List.mem_append.1 hx with hx|hx
  ·exact bytesOf_range _ x hx
  ·exact bytesOf_range _ x hx
def half (n:Nat):Nat:=2 ^ (n - 1).log2
theorem half_pos (n:Nat):1≤half n:=Nat.one_le_two_pow
theorem half_lt {n:Nat} (h:2≤n):half n < n:=by
 have:=Nat.log2_self_le (n:=n - 1) (by omega)
 unfold half
 omega
theorem half_l0 (n:Nat) (h2:2≤n) (hn:n≤4611686018427387904):∀ (d j:Nat),d+j=(n - 1).log2->Ev (fun k=>spec_l6Half.l0 k (n:Int) ((2 ^ j:Nat):Int)) ((half n:Nat):Int):=by
 have hself:=Nat.log2_self_le (n:=n - 1) (by omega)
 have hlt:=Nat.lt_log2_self (n:=n - 1)
 intro d
 induction d with
 | zero =>
  intro j hj
  obtain rfl:j=(n - 1).log2:=by omega
  refine Ev.step (f:=fun _=>some ((half n:Nat):Int)) (fun k=>?_) (Ev.now _)
  rw [Nat.pow_succ] at hlt
  simp only [spec_l6Half.l0]
  rw [w64 (by omega) (by omega),if_neg (by omega)]
  rfl
 | succ d ih =>
  intro j hj
  have hp:2 ^ (j+1)≤2 ^ (n - 1).log2:=Nat.pow_le_pow_right (by decide) (by omega)
  have hs:2 ^ (j+1)=2 ^ j * 2:=Nat.pow_succ _ _
  refine Ev.step (fun k=>?_) (ih (j+1) (by omega))
  simp only [spec_l6Half.l0]
  rw [w64 (by omega) (by omega),if_pos (by omega)]
  congr 1
  omega
theorem spec_half (n:Nat) (h2:2≤n) (hn:n≤4611686018427387904):Ev (fun k=>spec_l6Half.f k (n:Int)) ((half n:Nat):Int):=half_l0 n h2 hn (n - 1).log2 0 rfl
theorem half_same (k:Nat) (n x:Int):impl_half.l0 k n x=spec_l6Half.l0 k n x:=by
 induction k generalizing x with
 | zero=>simp only [impl_half.l0,spec_l6Half.l0]
 | succ k ih =>
  simp only [impl_half.l0,spec_l6Half.l0]
  rw [ih,Int.mul_comm]
theorem impl_half_ev (n:Nat) (h2:2≤n) (hn:n≤4611686018427387904):Ev (fun k=>impl_half.f k (n:Int)) ((half n:Nat):Int):=by
 refine Ev.congr (fun k=>?_) (spec_half n h2 hn)
 unfold impl_half.f spec_l6Half.f
 rw [half_same]
def rootBy (lf:ByteArray->ByteArray) (l:List ByteArray):ByteArray :=
 if h:2≤l.length then nodeH (rootBy lf (l.take (half l.length))) (rootBy lf (l.drop (half l.length)))
 else match l with
  | []=>sha []
  | a :: _=>lf a
termination_by l.length
decreasing_by
 ·have:=half_lt h
  simp
  omega
 ·have:=half_pos l.length
  simp
  omega
theorem rootBy_nil (lf:ByteArray->ByteArray):rootBy lf []=sha []:=by
 rw [rootBy]
 simp
theorem rootBy_one (lf:ByteArray->ByteArray) (a:ByteArray):rootBy lf [a]=lf a:=by
 rw [rootBy]
 simp
theorem rootBy_more (lf:ByteArray->ByteArray) {l:List ByteArray} (h:2≤l.length):rootBy lf l=nodeH (rootBy lf (l.take (half l.length))) (rootBy lf (l.drop (half l.length))):=by
 rw [rootBy,dif_pos h]
theorem rootBy_size (lf:ByteArray->ByteArray) (b:Nat) (hb:32≤b) (l:List ByteArray) (hl:∀ x ∈ l,(lf x).size≤b):(rootBy lf l).size≤b:=by
 by_cases h:2≤l.length
 ·rw [rootBy_more lf h,nodeH_size]
  exact hb
 ·match l,h with
  | [],_=>rw [rootBy_nil,sha_size];exact hb
  | [a],_=>rw [rootBy_one];exact hl a (by simp)
  | _ :: _ :: _,h=>simp at h
theorem cut_parts (l:List ByteArray) (h:2≤l.length):1≤(l.take (half l.length)).length∧(l.take (half l.length)).length < l.length∧1≤(l.drop (half l.length)).length∧(l.drop (half l.length)).length < l.length:=by
 have h1:=half_pos l.length
 have h2:=half_lt h
 simp
 omega
theorem or_swap (a b:Int):Go.bits .or .i64 a b=Go.bits .or .i64 b a:=by
 have e:∀ x y:Int,Go.bits .or .i64 x y=IntKind.i64.wrap ((BitVec.ofInt 64 x ||| BitVec.ofInt 64 y).toNat:Int):=fun x y=>rfl
 rw [e,e,BitVec.or_comm]
def InB (l:List Int):Prop:=∀ x ∈ l,0≤x∧x≤255
theorem inB_nil:InB []:=fun x hx=>by simp at hx
theorem inB_app {a b:List Int} (ha:InB a) (hb:InB b):InB (a ++ b):=fun x hx=>by
 rcases List.mem_append.1 hx with hx|hx
 ·exact ha x hx
 ·exact hb x hx
theorem inB_text (s:ByteArray):InB (bytesOf s):=fun x hx=>bytesOf_range s x hx
def num (n:Nat):List Int:=if 127 < n then ((128+n % 128:Nat):Int) :: num (n / 128) else [(n:Int)]
termination_by n
decreasing_by omega
theorem num_more {n:Nat} (h:127 < n):num n=((128+n % 128:Nat):Int) :: num (n / 128):=by rw [num,if_pos h]
theorem num_one {n:Nat} (h:¬ 127 < n):num n=[(n:Int)]:=by rw [num,if_neg h]
theorem num_inB (n:Nat):InB (num n):=by
 induction n using Nat.strongRecOn with
 | ind n ih =>
  by_cases h:127 < n
  ·rw [num_more h]
   intro x hx
   rcases List.mem_cons.1 hx with hx|hx
   ·omega
   ·exact ih (n / 128) (by omega) x hx
  ·rw [num_one h]
   intro x hx
   rw [List.mem_singleton.1 hx]
   omega
theorem num_pos (n:Nat):1≤(num n).length:=by
 by_cases h:127 < n
 ·rw [num_more h]
  simp
 ·rw [num_one h]
  simp
theorem num_len:∀ (k n:Nat),n < 128 ^ (k+1)->(num n).length≤k+1:=by
 intro k
 induction k with
 | zero =>
  intro n h
  rw [num_one (by omega)]
  simp
 | succ k ih =>
  intro n h
  by_cases h2:127 < n
  ·rw [num_more h2,List.length_cons]
   have:=ih (n / 128) (by rw [Nat.pow_succ] at h;omega)
   omega
  ·rw [num_one h2]
   simp
theorem num_five {n:Nat} (h:n≤1000000000):(num n).length≤5:=num_len 4 n (by omega)
theorem num_inj:∀ (n m:Nat) (r s:List Int),num n ++ r=num m ++ s->n=m∧r=s:=by
 intro n
 induction n using Nat.strongRecOn with
 | ind n ih =>
  intro m r s h
  by_cases h1:127 < n
  ·by_cases h2:127 < m
   ·rw [num_more h1,num_more h2,List.cons_append,List.cons_append] at h
    injection h with ha hb
    obtain ⟨e1,e2⟩:=ih (n / 128) (by omega) (m / 128) r s hb
    exact ⟨by omega,e2⟩
   ·rw [num_more h1,num_one h2,List.cons_append,List.cons_append] at h
    injection h with ha hb
    omega
  ·by_cases h2:127 < m
   ·rw [num_one h1,num_more h2,List.cons_append,List.cons_append] at h
    injection h with ha hb
    omega
   ·rw [num_one h1,num_one h2,List.cons_append,List.cons_append] at h
    injection h with ha hb
    exact ⟨by omega,by simpa using hb⟩
def textB (s:ByteArray):List Int:=num s.size ++ bytesOf s
def manyB (t:List ByteArray):List Int:=(t.map textB).flatten
def textsB (t:List ByteArray):List Int:=num t.length ++ manyB t
theorem textB_inB (s:ByteArray):InB (textB s):=inB_app (num_inB _) (inB_text s)
theorem manyB_nil:manyB []=[]:=rfl
theorem manyB_cons (s:ByteArray) (t:List ByteArray):manyB (s :: t)=textB s ++ manyB t:=rfl
theorem textB_length (s:ByteArray):(textB s).length=(num s.size).length+s.size:=by
 unfold textB
 rw [List.length_append,bytesOf_length]
theorem bytesOf_inj {a b:ByteArray} (h:bytesOf a=bytesOf b):a=b:=by
 apply bytes_ext
 rw [Go.Lib.toList_data,Go.Lib.toList_data]
 unfold bytesOf at h
 refine List.map_inj_right (fun x y e=>?_) |>.1 h
 exact UInt8.toNat_inj.1 (by omega)
theorem textB_inj {a b:ByteArray} {r s:List Int} (h:textB a ++ r=textB b ++ s):a=b∧r=s:=by
 unfold textB at h
 rw [List.append_assoc,List.append_assoc] at h
 obtain ⟨h1,h2⟩:=num_inj _ _ _ _ h
 obtain ⟨h3,h4⟩:=List.append_inj h2 (by rw [bytesOf_length,bytesOf_length,h1])
 exact ⟨bytesOf_inj h3,h4⟩
theorem manyB_inj:∀ (a b:List ByteArray) (r s:List Int),a.length=b.length->manyB a ++ r=manyB b ++ s->a=b∧r=s:=by
 intro a
 induction a with
 | nil =>
  intro b r s hl h
  obtain rfl:=List.eq_nil_of_length_eq_zero hl.symm
  exact ⟨rfl,by simpa [manyB_nil] using h⟩
 | cons x a ih =>
  intro b r s hl h
  cases b with
  | nil=>cases hl
  | cons y b =>
   rw [manyB_cons,manyB_cons,List.append_assoc,List.append_assoc] at h
   obtain ⟨e1,e2⟩:=textB_inj h
   obtain ⟨e3,e4⟩:=ih b r s (by simpa using hl) e2
   exact ⟨by rw [e1,e3],e4⟩
theorem textsB_inj {a b:List ByteArray} {r s:List Int} (h:textsB a ++ r=textsB b ++ s):a=b∧r=s:=by
 unfold textsB at h
 rw [List.append_assoc,List.append_assoc] at h
 obtain ⟨h1,h2⟩:=num_inj _ _ _ _ h
 exact manyB_inj a b r s h1 h2
theorem and127 (c:Int) (h0:0≤c) (h1:c < 9223372036854775808):Go.bits .and .i64 c 127=c % 128:=bits_mask .i64 63 (by decide) wraps63 7 (by decide) c h0 h1
theorem or128 (c:Int) (h0:0≤c) (h1:c < 128):Go.bits .or .i64 c 128=128+c:=by
 rw [or_swap]
 exact bits_join .i64 63 (by decide) wraps63 7 128 c (by decide) (by decide) (by decide) h0 h1 (by omega)
theorem bit_at (n c p u:Int) (e:Nat) (hu:u=(e:Int)) (he:e≤28) (hp:p=2 ^ e) (hq:p≤268435456) (hn0:0≤n) (hn1:n < p) (hc0:0≤c) (hc1:c≤255):Go.bits .or .i64 n (shl .i64 (Go.bits .and .i64 c 127) u)=n+p * (c % 128):=by
 rw [and127 c hc0 (by omega)]
 obtain ⟨d,hd⟩:∃ d,c % 128=d:=⟨_,rfl⟩
 have hd0:0≤d:=by omega
 have hd1:d≤127:=by omega
 rw [hd]
 have hp0:0≤p:=by omega
 have hm:d * p≤127 * 268435456:=Int.mul_le_mul hd1 hq hp0 (by decide)
 have hm0:0≤d * p:=Int.mul_nonneg hd0 hp0
 have hs:shl .i64 d u=d * p:=by
  unfold shl
  rw [hu,Int.toNat_natCast,Nat.min_eq_left (show e≤IntKind.i64.bits by show e≤64;omega),← hp]
  exact wraps63 _ hm0 (by omega)
 rw [hs,or_swap,bits_join .i64 63 (by decide) wraps63 e (d * p) n hm0 (by rw [hp];exact Int.mul_emod_left _ _) (by omega) hn0 (by rw [← hp];exact hn1) (by omega),Int.mul_comm d p]
 omega
theorem u64_w (n:Int):IntKind.u64.wrap n=n % 18446744073709551616:=by simp [IntKind.wrap,IntKind.bits,IntKind.signed]
theorem u7 (k:Nat) (hk:k≤4):IntKind.u64.wrap (wrap64 (7 * (k:Int)))=((7 * k:Nat):Int):=by
 rw [w64 (by omega) (by omega),u64_w]
 omega
theorem pow7 (k:Nat):(128:Nat) ^ k=2 ^ (7 * k):=by rw [Nat.pow_mul]
theorem bit_step (n c k:Nat) (hk:k≤4) (hn:n < 128 ^ k) (hc:c≤255):Go.bits .or .i64 (n:Int) (shl .i64 (Go.bits .and .i64 (c:Int) 127) ((7 * k:Nat):Int))=((n+128 ^ k * (c % 128):Nat):Int):=by
 have h4:(128:Nat) ^ k≤128 ^ 4:=Nat.pow_le_pow_right (by decide) hk
 have h5:(128:Nat) ^ 4=268435456:=by decide
 have e:=pow7 k
 have:=bit_at (n:Int) (c:Int) ((128 ^ k:Nat):Int) _ (7 * k) rfl (by omega) (by rw [e,Int.natCast_pow];rfl) (by omega) (by omega) (by omega) (by omega) (by omega)
 rw [this,Int.natCast_add,Int.natCast_mul,Int.natCast_emod]
 rfl
def NumAt (b:List Int) (a k n:Nat) (m x:Int) (ok:Bool):Prop :=
 (ok=false->m=0∧x=0∧∀ N r,b.drop (a+k)=num N ++ r->n+128 ^ k * N≤1000000000->(0 < k->0 < N)->False) ∧
 (ok=true->∃ N:Nat,m=((n+128 ^ k * N:Nat):Int)∧n+128 ^ k * N≤1000000000∧(0 < k->0 < N)∧b.drop (a+k)=num N ++ b.drop (a+k+(num N).length)∧x=((a+k+(num N).length:Nat):Int)∧a+k+(num N).length≤b.length)
theorem numAt_more {b:List Int} {a k n c:Nat} {m x:Int} {ok:Bool} (hk:k≤4) (hd:b.drop (a+k)=(c:Int) :: b.drop (a+k+1)) (hc:127 < c) (hc2:c≤255) (h:NumAt b a (k+1) (n+128 ^ k * (c % 128)) m x ok):NumAt b a k n m x ok:=by
 have e:∀ N,n+128 ^ k * (c % 128) + 128 ^ (k+1) * N=n+128 ^ k * (c % 128+128 * N):=fun N=>by
  rw [Nat.pow_succ,Nat.mul_add,Nat.mul_assoc]
  omega
 refine ⟨fun ho=>?_,fun ho=>?_⟩
 ·obtain ⟨h1,h2,h3⟩:=h.1 ho
  refine ⟨h1,h2,fun N r hN hM hP=>?_⟩
  by_cases h9:127 < N
  ·rw [num_more h9,hd,List.cons_append] at hN
   injection hN with ha hb
   refine h3 (N / 128) r hb ?_ (fun _=>by omega)
   rw [e]
   have:c % 128+128 * (N / 128)=N:=by omega
   rw [this]
   exact hM
  ·rw [num_one h9,hd,List.cons_append] at hN
   injection hN with ha hb
   omega
 ·obtain ⟨N,h1,h2,h3,h4,h5,h6⟩:=h.2 ho
  have h3:=h3 (by omega)
  have hN:127 < c % 128+128 * N:=by omega
  have hn:num (c % 128+128 * N)=(c:Int) :: num N:=by
   rw [num_more hN,show (c % 128+128 * N) / 128=N by omega]
   congr 1
   omega
  refine ⟨c % 128+128 * N,by rw [h1,e],by rw [← e];exact h2,fun _=>by omega,?_,?_,?_⟩
  ·rw [hn,hd,List.length_cons,List.cons_append]
   congr 1
   rw [show a+k+((num N).length+1)=a+(k+1) + (num N).length by omega]
   exact h4
  ·rw [hn,List.length_cons,h5]
   congr 1
   omega
  ·rw [hn,List.length_cons]
   omega
theorem numAt_zero {b:List Int} {a k n:Nat} (hk:0 < k) (hd:b.drop (a+k)=(0:Int) :: b.drop (a+k+1)):NumAt b a k n 0 0 false:=by
 refine ⟨fun _=>⟨rfl,rfl,fun N r hN hM hP=>?_⟩,fun h=>by cases h⟩
 have hP:=hP hk
 by_cases h9:127 < N
 ·rw [num_more h9,hd,List.cons_append] at hN
  injection hN with ha hb
  omega
 ·rw [num_one h9,hd,List.cons_append] at hN
  injection hN with ha hb
  omega
theorem numAt_great {b:List Int} {a k n c:Nat} (hc:¬ 127 < c) (hd:b.drop (a+k)=(c:Int) :: b.drop (a+k+1)) (hg:1000000000 < n+128 ^ k * (c % 128)):NumAt b a k n 0 0 false:=by
 refine ⟨fun _=>⟨rfl,rfl,fun N r hN hM hP=>?_⟩,fun h=>by cases h⟩
 by_cases h9:127 < N
 ·rw [num_more h9,hd,List.cons_append] at hN
  injection hN with ha hb
  omega
 ·rw [num_one h9,hd,List.cons_append] at hN
  injection hN with ha hb
  have:c % 128=N:=by omega
  rw [this] at hg
  omega
theorem numAt_last {b:List Int} {a k n c:Nat} (hc:¬ 127 < c) (h0:0 < k->0 < c) (hl:a+k < b.length) (hd:b.drop (a+k)=(c:Int) :: b.drop (a+k+1)) (hg:n+128 ^ k * (c % 128)≤1000000000):NumAt b a k n ((n+128 ^ k * (c % 128):Nat):Int) ((a+k+1:Nat):Int) true:=by
 refine ⟨fun h=>(by cases h),fun _=>⟨c,?_,?_,h0,?_,?_,?_⟩⟩
 ·rw [show c % 128=c by omega]
 ·rw [show c % 128=c by omega] at hg
  exact hg
 ·rw [num_one hc,hd]
  simp
 ·rw [num_one hc]
  simp
 ·rw [num_one hc]
  simp
  omega
theorem numAt_end {b:List Int} {a k n:Nat} (hl:b.length≤a+k):NumAt b a k n 0 0 false:=by
 refine ⟨fun _=>⟨rfl,rfl,fun N r hN hM hP=>?_⟩,fun h=>by cases h⟩
 rw [List.drop_eq_nil_of_le hl] at hN
 have:=congrArg List.length hN
 have h2:=num_pos N
 rw [List.length_append] at this
 simp only [List.length_nil] at this
 omega
theorem numAt_five {b:List Int} {a n:Nat}:NumAt b a 5 n 0 0 false:=by
 refine ⟨fun _=>⟨rfl,rfl,fun N r hN hM hP=>?_⟩,fun h=>by cases h⟩
 have hP:=hP (by decide)
 omega
set_option maxHeartbeats 1000000 in
theorem getNum_loop (b:List Int) (hb:InB b) (hl:b.length≤1099511627776) (a:Nat) (hA:a≤1099511627776):∀ (d k:Nat),k+d=5->∀ n:Nat,n < 128 ^ k->∃ m x ok,Ev (fun q=>spec_GetNum.l0 q b (a:Int) (n:Int) (k:Int)) (m,x,ok)∧Ev (fun q=>impl_GetNum.l0 q b ((a+k:Nat):Int) (n:Int) (k:Int)) (m,x,ok)∧NumAt b a k n m x ok:=by
 have sEnd:∀ (n k:Int),Ev (fun q=>spec_GetNum.j1 q b (a:Int) n k false) (0,0,false):=fun n k=>by
  refine Ev.step (fun q=>by simp only [spec_GetNum.j1];rfl) ?_
  exact Ev.neg (by simp) (Ev.now _)
 have iEnd:∀ (x n k:Int),Ev (fun q=>impl_GetNum.j1 q b x n k false) (0,0,false):=fun x n k=>by
  refine Ev.step (fun q=>by simp only [impl_GetNum.j1];rfl) ?_
  exact Ev.neg (by simp) (Ev.now _)
 intro d
 induction d with
 | zero =>
  intro k hk n hn
  obtain rfl:k=5:=by omega
  refine ⟨0,0,false,?_,?_,numAt_five⟩
  ·refine Ev.step (fun q=>by simp only [spec_GetNum.l0];rfl) ?_
   exact Ev.neg (by omega) (sEnd _ _)
  ·refine Ev.step (fun q=>by simp only [impl_GetNum.l0];rfl) ?_
   exact Ev.neg (by omega) (iEnd _ _ _)
 | succ d ih =>
  intro k hk n hn
  have hk4:k≤4:=by omega
  have e1:=am_ (show wrap64 ((a:Int) + (k:Int))=((a+k:Nat):Int) by
   rw [w64 (by omega) (by omega)]
   omega)
  have hk5:(k:Int) < 5:=by omega
  by_cases hx:a+k < b.length
  ·obtain ⟨c,hc⟩:=get_some (l:=b) (i:=a+k) hx
   have hd:=drop_one hc
   have hcr:=hb c (List.mem_of_getElem? hc)
   obtain ⟨c,rfl⟩:=Int.eq_ofNat_of_zero_le hcr.1
   have hc255:c≤255:=by omega
   have e2:=am_ (show rd b ((a+k:Nat):Int)=(c:Int) from rd_at hc)
   have e3:=am_ (show wrap64 (c:Int)=(c:Int) from w64 (by omega) (by omega))
   have e4:=am_ (u7 k hk4)
   have e5:=am_ (bit_step n c k hk4 hn hc255)
   have e6:=am_ (show wrap64 ((k:Int) + 1)=((k+1:Nat):Int) by
    rw [w64 (by omega) (by omega)]
    omega)
   have e7:=am_ (show wrap64 (((a+k:Nat):Int) + 1)=((a+(k+1):Nat):Int) by
    rw [w64 (by omega) (by omega)]
    omega)
   have hlt:((a+k:Nat):Int) < (b.length:Int):=by omega
   have h70:(0:Int)≤((7 * k:Nat):Int):=by omega
   have ha0:(0:Int)≤((a+k:Nat):Int):=by omega
   have key:∀ r,Ev (fun q=>spec_GetNum.j1 q b (a:Int) (n:Int) (k:Int) true) r->Ev (fun q=>spec_GetNum.l0 q b (a:Int) (n:Int) (k:Int)) r:=fun r h=>by
    refine Ev.step (fun q=>by simp only [spec_GetNum.l0,e1.out,decide_eq_true hlt];rfl) ?_
    exact Ev.pos hk5 (Ev.pos (by omega) (Ev.pos (by omega) h))
   have key2:∀ r,Ev (fun q=>impl_GetNum.j1 q b ((a+k:Nat):Int) (n:Int) (k:Int) true) r->Ev (fun q=>impl_GetNum.l0 q b ((a+k:Nat):Int) (n:Int) (k:Int)) r:=fun r h=>by
    refine Ev.step (fun q=>by simp only [impl_GetNum.l0,decide_eq_true hlt];rfl) ?_
    exact Ev.pos hk5 h
   by_cases h127:127 < c
   ·have hn2:n+128 ^ k * (c % 128) < 128 ^ (k+1):=by
     have:=Nat.mul_le_mul_left (128 ^ k) (show c % 128≤127 by omega)
     rw [Nat.pow_succ]
     omega
    obtain ⟨m,x,ok,s1,s2,s3⟩:=ih (k+1) (by omega) _ hn2
    refine ⟨m,x,ok,key _ ?_,key2 _ ?_,numAt_more hk4 hd h127 hc255 s3⟩
    ·refine Ev.step (fun q=>by simp only [spec_GetNum.j1,e1.out,e2.out,e3.out,e4.out,e5.out,e6.out];rfl) ?_
     exact Ev.pos trivial (Ev.pos ha0 (Ev.pos hlt (Ev.pos h70 (Ev.pos (by omega) s1))))
    ·refine Ev.step (fun q=>by simp only [impl_GetNum.j1,e2.out,e3.out,e4.out,e5.out,e6.out,e7.out];rfl) ?_
     exact Ev.pos trivial (Ev.pos ha0 (Ev.pos hlt (Ev.pos h70 (Ev.neg (by omega) s2))))
   ·by_cases hz:0 < k∧c=0
    ·obtain ⟨hk0,rfl⟩:=hz
     refine ⟨0,0,false,key _ ?_,key2 _ ?_,numAt_zero hk0 hd⟩
     ·refine Ev.step (fun q=>by simp only [spec_GetNum.j1,e1.out,e2.out,e3.out,e4.out,e5.out,e6.out];rfl) ?_
      exact Ev.pos trivial (Ev.pos ha0 (Ev.pos hlt (Ev.pos h70 (Ev.neg (by omega) (Ev.pos (by omega) (Ev.pos (by omega) (Ev.now _)))))))
     ·refine Ev.step (fun q=>by simp only [impl_GetNum.j1,e2.out,e3.out,e4.out,e5.out,e6.out,e7.out];rfl) ?_
      exact Ev.pos trivial (Ev.pos ha0 (Ev.pos hlt (Ev.pos h70 (Ev.pos (by omega) (Ev.pos (by omega) (Ev.pos (by omega) (Ev.now _)))))))
    ·obtain ⟨v,hv⟩:∃ v,n+128 ^ k * (c % 128)=v:=⟨_,rfl⟩
     by_cases hg:1000000000 < v
     ·refine ⟨0,0,false,key _ ?_,key2 _ ?_,numAt_great h127 hd (by rw [hv];exact hg)⟩
      ·refine Ev.step (fun q=>by simp only [spec_GetNum.j1,e1.out,e2.out,e3.out,e4.out,e5.out,e6.out,hv];rfl) ?_
       refine Ev.pos trivial (Ev.pos ha0 (Ev.pos hlt (Ev.pos h70 (Ev.neg (by omega) ?_))))
       by_cases hk0:0 < k
       ·exact Ev.pos (by omega) (Ev.neg (by omega) (Ev.pos (by omega) (Ev.now _)))
       ·exact Ev.neg (by omega) (Ev.pos (by omega) (Ev.now _))
      ·refine Ev.step (fun q=>by simp only [impl_GetNum.j1,e2.out,e3.out,e4.out,e5.out,e6.out,e7.out,hv];rfl) ?_
       refine Ev.pos trivial (Ev.pos ha0 (Ev.pos hlt (Ev.pos h70 (Ev.pos (by omega) ?_))))
       by_cases hc0:c=0
       ·exact Ev.pos (by omega) (Ev.neg (by omega) (Ev.pos (by omega) (Ev.now _)))
       ·exact Ev.neg (by omega) (Ev.pos (by omega) (Ev.now _))
     ·have hlast:=numAt_last (n:=n) h127 (fun hk0=>by omega) hx hd (by rw [hv];omega)
      rw [hv] at hlast
      refine ⟨(v:Int),((a+k+1:Nat):Int),true,key _ ?_,key2 _ ?_,hlast⟩
      ·refine Ev.step (fun q=>by simp only [spec_GetNum.j1,e1.out,e2.out,e3.out,e4.out,e5.out,e6.out,e7.out,hv];rfl) ?_
       refine Ev.pos trivial (Ev.pos ha0 (Ev.pos hlt (Ev.pos h70 (Ev.neg (by omega) ?_))))
       by_cases hk0:0 < k
       ·exact Ev.pos (by omega) (Ev.neg (by omega) (Ev.neg (by omega) (Ev.now _)))
       ·exact Ev.neg (by omega) (Ev.neg (by omega) (Ev.now _))
      ·refine Ev.step (fun q=>by simp only [impl_GetNum.j1,e2.out,e3.out,e4.out,e5.out,e6.out,e7.out,hv];rfl) ?_
       refine Ev.pos trivial (Ev.pos ha0 (Ev.pos hlt (Ev.pos h70 (Ev.pos (by omega) ?_))))
       by_cases hc0:c=0
       ·exact Ev.pos (by omega) (Ev.neg (by omega) (Ev.neg (by omega) (Ev.now _)))
       ·exact Ev.neg (by omega) (Ev.neg (by omega) (Ev.now _))
  ·refine ⟨0,0,false,?_,?_,numAt_end (by omega)⟩
   ·have hn:¬ ((a+k:Nat):Int) < (b.length:Int):=by omega
    refine Ev.step (fun q=>by simp only [spec_GetNum.l0,e1.out,decide_eq_false hn];rfl) ?_
    refine Ev.pos hk5 (Ev.pos (by omega) ?_)
    by_cases h2:(a:Int) < (b.length:Int)
    ·exact Ev.pos h2 (sEnd _ _)
    ·exact Ev.neg h2 (sEnd _ _)
   ·have hn:¬ ((a+k:Nat):Int) < (b.length:Int):=by omega
    refine Ev.step (fun q=>by simp only [impl_GetNum.l0,decide_eq_false hn];rfl) ?_
    exact Ev.pos hk5 (iEnd _ _ _)
def NumOf (b:List Int) (at_ m x:Int) (ok:Bool):Prop :=
 (ok=false->m=0∧x=0∧∀ (a N:Nat) r,at_=(a:Int)->b.drop a=num N ++ r->N≤1000000000->False) ∧
 (ok=true->∃ a N:Nat,at_=(a:Int)∧m=(N:Int)∧N≤1000000000∧b.drop a=num N ++ b.drop (a+(num N).length)∧x=((a+(num N).length:Nat):Int)∧a+(num N).length≤b.length)
theorem getNum_both (b:List Int) (hb:InB b) (hl:b.length≤1099511627776) (at_:Int) (h0:-9223372036854775808≤at_) (h1:at_≤9223372036854775807):∃ m x ok,Ev (fun q=>spec_GetNum.f q b at_) (m,x,ok)∧Ev (fun q=>impl_GetNum.f q b at_) (m,x,ok)∧NumOf b at_ m x ok:=by
 have hw:wrap64 ((b.length:Int) - 1)=(b.length:Int) - 1:=w64 (by omega) (by omega)
 by_cases hr:0≤at_∧at_≤(b.length:Int) - 1
 ·obtain ⟨a,rfl⟩:=Int.eq_ofNat_of_zero_le hr.1
  obtain ⟨m,x,ok,s1,s2,s3⟩:=getNum_loop b hb hl a (by omega) 5 0 rfl 0 (by decide)
  refine ⟨m,x,ok,?_,?_,?_⟩
  ·exact s1
  ·unfold impl_GetNum.f
   rw [hw]
   exact Ev.bind (Ev.const (impl_in_eq _ _ _)) (Ev.pos (decide_eq_true hr) s2)
  ·refine ⟨fun ho=>?_,fun ho=>?_⟩
   ·obtain ⟨q1,q2,q3⟩:=s3.1 ho
    refine ⟨q1,q2,fun a' N r ha' hN hM=>?_⟩
    obtain rfl:a=a':=by omega
    exact q3 N r hN (by simpa using hM) (fun h=>by omega)
   ·obtain ⟨N,q1,q2,_,q4,q5,q6⟩:=s3.2 ho
    exact ⟨a,N,rfl,by simpa using q1,by simpa using q2,by simpa using q4,by simpa using q5,by simpa using q6⟩
 ·refine ⟨0,0,false,?_,?_,?_⟩
  ·unfold spec_GetNum.f
   refine Ev.step (fun q=>by simp only [spec_GetNum.l0];rfl) ?_
   have hj:∀ x:Bool,x=false->Ev (fun q=>spec_GetNum.j1 q b at_ 0 0 x) (0,0,false):=fun x hx=>by
    subst hx
    refine Ev.step (fun q=>by simp only [spec_GetNum.j1];rfl) ?_
    exact Ev.neg (by simp) (Ev.now _)
   refine Ev.pos (by decide) ?_
   by_cases h2:at_ ≥ 0
   ·refine Ev.pos h2 (Ev.neg (by omega) (hj _ rfl))
   ·exact Ev.neg h2 (hj _ rfl)
  ·unfold impl_GetNum.f
   rw [hw]
   exact Ev.bind (Ev.const (impl_in_eq _ _ _)) (Ev.neg (by rw [decide_eq_false hr];simp) (Ev.now _))
  ·refine ⟨fun _=>⟨rfl,rfl,fun a N r ha hN hM=>?_⟩,fun h=>by cases h⟩
   have h2:=num_pos N
   have:=congrArg List.length hN
   rw [List.length_append,List.length_drop] at this
   omega
theorem byte_more (x:Nat) (h:x≤1000000000):(Go.bits .or .i64 (Go.bits .and .i64 (x:Int) 127) 128) % 256=((128+x % 128:Nat):Int):=by
 rw [and127 _ (by omega) (by omega),or128 _ (by omega) (by omega)]
 omega
theorem num_val:∀ (k x:Nat) (acc:List Int),x < 128 ^ (k+1)->x≤1000000000->acc.length+k≤1099511627776 →
  Ev (fun q=>spec_PutNum.l0 q (x:Int) acc) (acc ++ num x)∧Ev (fun q=>impl_putNum.l0 q acc (x:Int)) (acc ++ num x):=by
 intro k
 induction k with
 | zero =>
  intro x acc h1 h2 h3
  have hx:¬ (x:Int) > 127:=by omega
  have e:(x:Int) % 256=(x:Int):=by omega
  rw [num_one (by omega)]
  refine ⟨?_,?_⟩
  ·refine Ev.step (fun q=>by simp only [spec_PutNum.l0,e];rfl) ?_
   exact Ev.neg hx (Ev.pos (by omega) (Ev.now _))
  ·refine Ev.step (fun q=>by simp only [impl_putNum.l0,e];rfl) ?_
   exact Ev.neg hx (Ev.pos (by omega) (Ev.now _))
 | succ k ih =>
  intro x acc h1 h2 h3
  by_cases hx:(x:Int) > 127
  ·have e1:=am_ (byte_more x h2)
   have e2:=am_ (show (x:Int) / 128=((x / 128:Nat):Int) by omega)
   have hp:x / 128 < 128 ^ (k+1):=by
    rw [Nat.pow_succ] at h1
    omega
   obtain ⟨i1,i2⟩:=ih (x / 128) (acc ++ [((128+x % 128:Nat):Int)]) hp (by omega) (by simp;omega)
   have en:acc ++ num x=acc ++ [((128+x % 128:Nat):Int)] ++ num (x / 128):=by
    rw [num_more (by omega)]
    simp
   rw [en]
   refine ⟨?_,?_⟩
   ·refine Ev.step (fun q=>by simp only [spec_PutNum.l0,e1.out,e2.out];rfl) ?_
    exact Ev.pos hx (Ev.pos (by omega) i1)
   ·refine Ev.step (fun q=>by simp only [impl_putNum.l0,or_swap 128 (Go.bits .and .i64 (x:Int) 127),e1.out,e2.out];rfl) ?_
    exact Ev.pos hx (Ev.pos (by omega) i2)
  ·have e:(x:Int) % 256=(x:Int):=by omega
   rw [num_one (by omega)]
   refine ⟨?_,?_⟩
   ·refine Ev.step (fun q=>by simp only [spec_PutNum.l0,e];rfl) ?_
    exact Ev.neg hx (Ev.pos (by omega) (Ev.now _))
   ·refine Ev.step (fun q=>by simp only [impl_putNum.l0,e];rfl) ?_
    exact Ev.neg hx (Ev.pos (by omega) (Ev.now _))
theorem putNum_val (l:List Int) (n:Nat) (hn:n≤1000000000) (hl:l.length≤1099511627000):Ev (fun q=>spec_PutNum.f q l (n:Int)) (l ++ num n)∧Ev (fun q=>impl_putNum.f q l (n:Int)) (l ++ num n):=by
 have hm:mx 0 (mn (n:Int) 1000000000)=(n:Int):=by
  unfold mx mn
  by_cases h:(1000000000:Int) < (n:Int)
  ·omega
  ·rw [if_neg h]
   by_cases h2:(0:Int) < (n:Int)
   ·rw [if_pos h2]
   ·rw [if_neg h2]
    omega
 obtain ⟨i1,i2⟩:=num_val 4 n l (by omega) hn (by omega)
 refine ⟨?_,?_⟩
 ·unfold spec_PutNum.f
  refine Ev.bind (Ev.now _) ?_
  simp only [List.nil_append,List.length_nil]
  refine Ev.pos (by omega) (Ev.bind (Ev.now _) (Ev.neg (by omega) ?_))
  refine Ev.step (fun q=>by simp only [spec_PutNum.j0];rfl) ?_
  refine Ev.neg (by omega) ?_
  exact Ev.step (fun q=>by simp only [spec_PutNum.j1]) i1
 ·unfold impl_putNum.f
  rw [hm]
  exact i2
theorem putText_val (l:List Int) (s:ByteArray) (hs:s.size≤1000000000) (hl:l.length≤1099511626000):Ev (fun q=>spec_PutText.f q l s) (l ++ textB s)∧Ev (fun q=>impl_putText.f q l s) (l ++ textB s):=by
 obtain ⟨i1,i2⟩:=putNum_val l s.size hs (by omega)
 have h5:=num_five hs
 unfold textB
 rw [← List.append_assoc]
 refine ⟨?_,?_⟩
 ·unfold spec_PutText.f
  exact Ev.bind i1 (Ev.pos (by rw [List.length_append];omega) (Ev.now _))
 ·unfold impl_putText.f
  exact Ev.bind i2 (Ev.pos (by rw [List.length_append];omega) (Ev.now _))
theorem manyB_length (t:List ByteArray) (h:∀ s ∈ t,s.size≤1000000000):((manyB t).length:Int)≤5 * t.length+total t:=by
 induction t with
 | nil=>simp [manyB_nil,total]
 | cons s t ih =>
  have i:=ih (fun x hx=>h x (List.mem_cons_of_mem _ hx))
  have h5:=num_five (h s (List.mem_cons_self ..))
  rw [manyB_cons,List.length_append,textB_length,total_cons,List.length_cons]
  omega
set_option maxHeartbeats 1000000 in
theorem putTexts_val (l:List Int) (t:List ByteArray) (hl:(l.length:Int) + 10 * t.length+total t≤1099511620000) (ht:t.length≤1000000000) (hs:∀ s ∈ t,s.size≤1000000000) :
  Ev (fun q=>spec_PutTexts.f q l t) (l ++ textsB t)∧Ev (fun q=>impl_putTexts.f q l t) (l ++ textsB t):=by
 have ht0:=total_nonneg t
 obtain ⟨e1,e2⟩:=putNum_val l t.length ht (by omega)
 have h5:=num_five ht
 have main:∀ (d i:Nat) (acc:List Int),i+d=t.length->(acc.length:Int) + 10 * d+total (t.drop i)≤1099511621000->Ev (fun q=>spec_PutTexts.l0 q t acc (i:Int)) (acc ++ manyB (t.drop i))∧Ev (fun q=>impl_putTexts.l0 q acc t (t.length:Int) (i:Int)) (acc ++ manyB (t.drop i)):=by
  intro d
  induction d with
  | zero =>
   intro i acc hi ha
   have hd:t.drop i=[]:=List.drop_eq_nil_of_le (by omega)
   rw [hd,manyB_nil,List.append_nil]
   refine ⟨?_,?_⟩
   ·refine Ev.step (fun q=>by simp only [spec_PutTexts.l0];rfl) ?_
    exact Ev.neg (by omega) (Ev.now _)
   ·refine Ev.step (fun q=>by simp only [impl_putTexts.l0];rfl) ?_
    exact Ev.neg (by omega) (Ev.now _)
  | succ d ih =>
   intro i acc hi ha
   have hi1:i < t.length:=by
    clear ha hl
    omega
   have hI:(i:Int) < (t.length:Int):=Int.ofNat_lt.2 hi1
   have hI0:(0:Int)≤(i:Int):=Int.natCast_nonneg i
   obtain ⟨x,hx⟩:=get_some (l:=t) (i:=i) hi1
   have hd:=drop_one hx
   have hxs:=hs x (List.mem_of_getElem? hx)
   have hx5:=num_five hxs
   have h0:=total_nonneg (t.drop (i+1))
   rw [hd,total_cons] at ha
   obtain ⟨p1,p2⟩:=putText_val acc x hxs (by omega)
   obtain ⟨f1,f2⟩:=ih (i+1) (acc ++ textB x) (by omega) (by rw [List.length_append,textB_length];omega)
   have nx:wrap64 ((i:Int) + 1)=((i+1:Nat):Int):=by
    clear ha hl
    rw [w64 (by omega) (by omega)]
    omega
   have en:acc ++ manyB (t.drop i)=acc ++ textB x ++ manyB (t.drop (i+1)):=by rw [hd,manyB_cons,List.append_assoc]
   rw [en]
   refine ⟨?_,?_⟩
   ·refine Ev.step (fun q=>by simp only [spec_PutTexts.l0];rfl) ?_
    rw [rdOf_at hx,nx]
    refine Ev.pos hI (Ev.pos hI0 ?_)
    exact Ev.bind (f:=fun q z=>spec_PutTexts.l0 q t z ((i+1:Nat):Int)) p1 f1
   ·refine Ev.step (fun q=>by simp only [impl_putTexts.l0];rfl) ?_
    rw [rdOf_at hx,nx]
    refine Ev.pos hI (Ev.pos hI0 (Ev.pos hI ?_))
    exact Ev.bind (f:=fun q z=>impl_putTexts.l0 q z t (t.length:Int) ((i+1:Nat):Int)) p2 f2
 obtain ⟨f1,f2⟩:=main t.length 0 (l ++ num t.length) (by omega) (by rw [List.length_append,List.drop_zero];omega)
 rw [List.drop_zero] at f1 f2
 unfold textsB
 rw [← List.append_assoc]
 refine ⟨?_,?_⟩
 ·unfold spec_PutTexts.f
  exact Ev.bind e1 f1
 ·unfold impl_putTexts.f
  exact Ev.bind e2 f2
theorem bytes_nums (l:List Int) (h:InB l):bytesOf (strOfNums l)=l:=by
 unfold bytesOf
 rw [strOfNums_data,List.map_map]
 conv=>rhs;rw [← List.map_id l]
 apply List.map_congr_left
 intro x hx
 have:=h x hx
 simp only [Function.comp,id]
 rw [UInt8.toNat_ofNat']
 omega
theorem inB_take {l:List Int} (h:InB l) (n:Nat):InB (l.take n):=fun x hx=>h x (List.mem_of_mem_take hx)
theorem inB_drop {l:List Int} (h:InB l) (n:Nat):InB (l.drop n):=fun x hx=>h x (List.mem_of_mem_drop hx)
def TextOf (b:List Int) (at_:Int) (s:ByteArray) (x:Int) (ok:Bool):Prop :=
 (ok=false->s=⟨#[]⟩∧x=0∧∀ (a:Nat) (s':ByteArray) r,at_=(a:Int)->b.drop a=textB s' ++ r->s'.size≤1000000000->False) ∧
 (ok=true->∃ a:Nat,at_=(a:Int)∧s.size≤1000000000∧b.drop a=textB s ++ b.drop (a+(textB s).length)∧x=((a+(textB s).length:Nat):Int)∧a+(textB s).length≤b.length)
theorem getText_both (b:List Int) (hb:InB b) (hl:b.length≤1099511627776) (at_:Int) (h0:-9223372036854775808≤at_) (h1:at_≤9223372036854775807):∃ s x ok,Ev (fun q=>spec_GetText.f q b at_) (s,x,ok)∧Ev (fun q=>impl_GetText.f q b at_) (s,x,ok)∧TextOf b at_ s x ok:=by
 obtain ⟨m,x,ok,e1,e2,hN⟩:=getNum_both b hb hl at_ h0 h1
 unfold spec_GetText.f impl_GetText.f
 cases ok with
 | false =>
  obtain ⟨rfl,rfl,h3⟩:=hN.1 rfl
  refine ⟨⟨#[]⟩,0,false,Ev.bind e1 (Ev.neg (by simp) (Ev.now _)),Ev.bind e2 (Ev.neg (by simp) (Ev.now _)),fun _=>⟨rfl,rfl,fun a s' r ha hr hs=>?_⟩,fun h=>by cases h⟩
  unfold textB at hr
  rw [List.append_assoc] at hr
  exact h3 a s'.size _ ha hr hs
 | true =>
  obtain ⟨a,N,rfl,rfl,hN1,hd,rfl,hle⟩:=hN.2 rfl
  have hp:=num_pos N
  obtain ⟨c,hc⟩:∃ c,a+(num N).length=c:=⟨_,rfl⟩
  rw [hc] at e1 e2 hd hle
  clear hN
  by_cases hg:N+c≤b.length
  ·have w1:wrap64 ((b.length:Int) - (c:Int))=(b.length:Int) - (c:Int):=w64 (by omega) (by omega)
   have w2:wrap64 ((c:Int) + (N:Int))=((c+N:Nat):Int):=by
    rw [w64 (by omega) (by omega)]
    omega
   have ht:((c+N:Nat):Int).toNat=c+N:=Int.toNat_natCast _
   have ht2:(c:Int).toNat=c:=Int.toNat_natCast _
   have hrow:(b.take (c+N)).drop c=(b.drop c).take N:=by rw [List.drop_take];congr 1;omega
   have hlen:((b.drop c).take N).length=N:=by rw [List.length_take,List.length_drop];omega
   have hsz:(strOfNums ((b.drop c).take N)).size=N:=by rw [strOfNums_size,hlen]
   have htb:textB (strOfNums ((b.drop c).take N))=num N ++ (b.drop c).take N:=by
    unfold textB
    rw [hsz,bytes_nums _ (inB_take (inB_drop hb c) N)]
   have htl:(textB (strOfNums ((b.drop c).take N))).length=(num N).length+N:=by rw [htb,List.length_append,hlen]
   refine ⟨strOfNums ((b.drop c).take N),((c+N:Nat):Int),true,?_,?_,fun h=>(by cases h),fun _=>⟨a,rfl,by rw [hsz];exact hN1,?_,?_,?_⟩⟩
   ·refine Ev.bind e1 (Ev.pos rfl ?_)
    simp only [w1,w2,ht,ht2,hrow]
    exact Ev.neg (by omega) (Ev.pos (by omega) (Ev.pos (by omega) (Ev.pos (by omega) (Ev.now _))))
   ·refine Ev.bind e2 (Ev.pos rfl ?_)
    simp only [w1,w2,ht,ht2,hrow]
    exact Ev.neg (by omega) (Ev.pos (by omega) (Ev.pos (by omega) (Ev.pos (by omega) (Ev.now _))))
   ·rw [htl,htb,hd,List.append_assoc]
    congr 1
    rw [show a+((num N).length+N)=c+N by omega,← List.drop_drop]
    exact (List.take_append_drop N (b.drop c)).symm
   ·rw [htl]
    congr 1
    omega
   ·rw [htl]
    omega
  ·have w1:wrap64 ((b.length:Int) - (c:Int))=(b.length:Int) - (c:Int):=w64 (by omega) (by omega)
   refine ⟨⟨#[]⟩,0,false,?_,?_,fun _=>⟨rfl,rfl,fun a' s' r ha hr hs=>?_⟩,fun h=>by cases h⟩
   ·refine Ev.bind e1 (Ev.pos rfl ?_)
    simp only [w1]
    exact Ev.pos (by omega) (Ev.now _)
   ·refine Ev.bind e2 (Ev.pos rfl ?_)
    simp only [w1]
    exact Ev.pos (by omega) (Ev.now _)
   ·obtain rfl:a=a':=by omega
    unfold textB at hr
    rw [hd,List.append_assoc] at hr
    obtain ⟨k1,k2⟩:=num_inj _ _ _ _ hr
    have:=congrArg List.length k2
    rw [List.length_append,bytesOf_length,List.length_drop] at this
    omega
def TextsOf (b:List Int) (at_:Int) (t:List ByteArray) (x:Int) (ok:Bool):Prop :=
 (ok=false->t=[]∧x=0∧∀ (a:Nat) (t':List ByteArray) r,at_=(a:Int)->b.drop a=textsB t' ++ r->t'.length≤200->(∀ s ∈ t',s.size≤1000000000)->False) ∧
 (ok=true->∃ a:Nat,at_=(a:Int)∧t.length≤200∧(∀ s ∈ t,s.size≤1000000000)∧b.drop a=textsB t ++ b.drop (a+(textsB t).length)∧x=((a+(textsB t).length:Nat):Int)∧a+(textsB t).length≤b.length)
theorem texts_loop (b:List Int) (hb:InB b) (hl:b.length≤1099511627776) (N:Nat) (hN:N≤200):∀ (d i:Nat),i+d=N->∀ (c:Nat) (acc:List ByteArray),c≤b.length->acc.length=i →
  ∃ t x ok,Ev (fun q=>spec_GetTexts.l0 q b (N:Int) (c:Int) acc (i:Int)) (t,x,ok)∧Ev (fun q=>impl_GetTexts.l0 q b (c:Int) acc (N:Int) (i:Int)) (t,x,ok) ∧
   (ok=false->t=[]∧x=0∧∀ (t':List ByteArray) r,t'.length=d->b.drop c=manyB t' ++ r->(∀ s ∈ t',s.size≤1000000000)->False) ∧
   (ok=true->∃ t':List ByteArray,t=acc ++ t'∧t'.length=d∧(∀ s ∈ t',s.size≤1000000000)∧b.drop c=manyB t' ++ b.drop (c+(manyB t').length)∧x=((c+(manyB t').length:Nat):Int)∧c+(manyB t').length≤b.length):=by
 intro d
 induction d with
 | zero =>
  intro i hi c acc hc ha
  refine ⟨acc,(c:Int),true,?_,?_,fun h=>(by cases h),fun _=>⟨[],by simp,rfl,by simp,by simp [manyB_nil],by simp [manyB_nil],by simp [manyB_nil];omega⟩⟩
  ·refine Ev.step (fun q=>by simp only [spec_GetTexts.l0];rfl) ?_
   exact Ev.neg (by omega) (Ev.now _)
  ·refine Ev.step (fun q=>by simp only [impl_GetTexts.l0];rfl) ?_
   exact Ev.neg (by omega) (Ev.now _)
 | succ d ih =>
  intro i hi c acc hc ha
  obtain ⟨s,x,ok,e1,e2,hT⟩:=getText_both b hb hl (c:Int) (by omega) (by omega)
  have hlt:(i:Int) < (N:Int):=by omega
  have nx:wrap64 ((i:Int) + 1)=((i+1:Nat):Int):=by
   rw [w64 (by omega) (by omega)]
   omega
  cases ok with
  | false =>
   obtain ⟨rfl,rfl,h3⟩:=hT.1 rfl
   refine ⟨[],0,false,?_,?_,fun _=>⟨rfl,rfl,fun t' r ht hr hs=>?_⟩,fun h=>by cases h⟩
   ·refine Ev.step (fun q=>by simp only [spec_GetTexts.l0];rfl) ?_
    exact Ev.pos hlt (Ev.bind e1 (Ev.neg (by simp) (Ev.now _)))
   ·refine Ev.step (fun q=>by simp only [impl_GetTexts.l0];rfl) ?_
    exact Ev.pos hlt (Ev.bind e2 (Ev.neg (by simp) (Ev.now _)))
   ·cases t' with
    | nil=>cases ht
    | cons y t' =>
     rw [manyB_cons,List.append_assoc] at hr
     exact h3 c y _ rfl hr (hs y (List.mem_cons_self ..))
  | true =>
   obtain ⟨c',hcc,hs1,hd,rfl,hle⟩:=hT.2 rfl
   obtain rfl:c=c':=by omega
   obtain ⟨t,x2,ok2,f1,f2,f3,f4⟩:=ih (i+1) (by omega) (c+(textB s).length) (acc ++ [s]) hle (by simp;omega)
   have hal:acc.length < 8796093022208:=by omega
   refine ⟨t,x2,ok2,?_,?_,fun ho=>?_,fun ho=>?_⟩
   ·refine Ev.step (fun q=>by simp only [spec_GetTexts.l0,nx];rfl) ?_
    exact Ev.pos hlt (Ev.bind e1 (Ev.pos rfl (Ev.pos hal f1)))
   ·refine Ev.step (fun q=>by simp only [impl_GetTexts.l0,nx];rfl) ?_
    exact Ev.pos hlt (Ev.bind e2 (Ev.pos rfl (Ev.pos hal f2)))
   ·obtain ⟨g1,g2,g3⟩:=f3 ho
    refine ⟨g1,g2,fun t' r ht hr hs=>?_⟩
    cases t' with
    | nil=>cases ht
    | cons y t' =>
     rw [hd,manyB_cons,List.append_assoc] at hr
     obtain ⟨_,k2⟩:=textB_inj hr
     exact g3 t' r (by simpa using ht) k2 (fun s' hs'=>hs s' (List.mem_cons_of_mem _ hs'))
   ·obtain ⟨t',g1,g2,g3,g4,g5,g6⟩:=f4 ho
    refine ⟨s :: t',by rw [g1];simp,by simp [g2],fun s' hs'=>?_,?_,?_,?_⟩
    ·rcases List.mem_cons.1 hs' with rfl|hs'
     ·exact hs1
     ·exact g3 s' hs'
    ·rw [manyB_cons,List.length_append,List.append_assoc,← Nat.add_assoc]
     rw [hd]
     congr 1
    ·rw [manyB_cons,List.length_append,g5]
     congr 1
     omega
    ·rw [manyB_cons,List.length_append]
     omega
theorem getTexts_both (b:List Int) (hb:InB b) (hl:b.length≤1099511627776) (at_:Int) (h0:-9223372036854775808≤at_) (h1:at_≤9223372036854775807):∃ t x ok,Ev (fun q=>spec_GetTexts.f q b at_) (t,x,ok)∧Ev (fun q=>impl_GetTexts.f q b at_) (t,x,ok)∧TextsOf b at_ t x ok:=by
 obtain ⟨m,x,ok,e1,e2,hN⟩:=getNum_both b hb hl at_ h0 h1
 have sEnd:∀ m x:Int,Ev (fun q=>spec_GetTexts.j0 q b m x true) (([]:List ByteArray),(0:Int),false):=fun m x=>by
  refine Ev.step (fun q=>by simp only [spec_GetTexts.j0];rfl) ?_
  exact Ev.pos trivial (Ev.now _)
 have iEnd:∀ m x:Int,Ev (fun q=>impl_GetTexts.j0 q b m x true) (([]:List ByteArray),(0:Int),false):=fun m x=>by
  refine Ev.step (fun q=>by simp only [impl_GetTexts.j0];rfl) ?_
  exact Ev.pos trivial (Ev.now _)
 unfold spec_GetTexts.f impl_GetTexts.f
 cases ok with
 | false =>
  obtain ⟨rfl,rfl,h3⟩:=hN.1 rfl
  refine ⟨[],0,false,Ev.bind e1 (Ev.neg (by simp) (sEnd _ _)),Ev.bind e2 (Ev.neg (by simp) (iEnd _ _)),fun _=>⟨rfl,rfl,fun a t' r ha hr ht hs=>?_⟩,fun h=>by cases h⟩
  unfold textsB at hr
  rw [List.append_assoc] at hr
  exact h3 a t'.length _ ha hr (by omega)
 | true =>
  obtain ⟨a,N,rfl,rfl,hN1,hd,rfl,hle⟩:=hN.2 rfl
  by_cases hg:(N:Int) > 200
  ·refine ⟨[],0,false,?_,?_,fun _=>⟨rfl,rfl,fun a' t' r ha hr ht hs=>?_⟩,fun h=>by cases h⟩
   ·refine Ev.bind e1 (Ev.pos rfl ?_)
    simp only [decide_eq_true hg]
    exact sEnd _ _
   ·refine Ev.bind e2 (Ev.pos rfl ?_)
    simp only [decide_eq_true hg]
    exact iEnd _ _
   ·obtain rfl:a=a':=by omega
    unfold textsB at hr
    rw [hd,List.append_assoc] at hr
    obtain ⟨k1,k2⟩:=num_inj _ _ _ _ hr
    omega
  ·obtain ⟨t,x2,ok2,f1,f2,f3,f4⟩:=texts_loop b hb hl N (by omega) N 0 (by omega) (a+(num N).length) [] hle rfl
   refine ⟨t,x2,ok2,?_,?_,fun ho=>?_,fun ho=>?_⟩
   ·refine Ev.bind e1 (Ev.pos rfl ?_)
    simp only [decide_eq_false hg]
    refine Ev.step (fun q=>by simp only [spec_GetTexts.j0];rfl) ?_
    exact Ev.neg (by simp) f1
   ·refine Ev.bind e2 (Ev.pos rfl ?_)
    simp only [decide_eq_false hg]
    refine Ev.step (fun q=>by simp only [impl_GetTexts.j0];rfl) ?_
    exact Ev.neg (by simp) f2
   ·obtain ⟨g1,g2,g3⟩:=f3 ho
    refine ⟨g1,g2,fun a' t' r ha hr ht hs=>?_⟩
    obtain rfl:a=a':=by omega
    unfold textsB at hr
    rw [hd,List.append_assoc] at hr
    obtain ⟨k1,k2⟩:=num_inj _ _ _ _ hr
    exact g3 t' r k1.symm k2 hs
   ·obtain ⟨t',g1,g2,g3,g4,g5,g6⟩:=f4 ho
    rw [List.nil_append] at g1
    subst g1
    have hb2:textsB t=num N ++ manyB t:=by
     unfold textsB
     rw [g2]
    refine ⟨a,rfl,by omega,g3,?_,?_,?_⟩
    ·rw [hb2,List.length_append,List.append_assoc,← Nat.add_assoc]
     rw [hd]
     congr 1
    ·rw [hb2,List.length_append,g5]
     congr 1
     omega
    ·rw [hb2,List.length_append]
     omega
def headOk (n:Int) (s:ByteArray):Bool:=if 0≤n∧n≤200 then ((s.size:Int) == 32) else false
theorem spec_HeadOk_eq (n:Int) (s:ByteArray):spec_HeadOk.f n s=some (headOk n s):=by
 unfold spec_HeadOk.f headOk
 rw [spec_in_eq]
 simp only [Option.bind_some]
 by_cases h:0≤n∧n≤200
 ·rw [decide_eq_true h,if_pos h]
  rfl
 ·rw [decide_eq_false h,if_neg h]
  rfl
theorem impl_HeadOk_eq (n:Int) (s:ByteArray):impl_HeadOk.f n s=some (headOk n s):=by
 unfold impl_HeadOk.f headOk
 rw [impl_in_eq]
 simp only [Option.bind_some]
 by_cases h:0≤n∧n≤200
 ·rw [decide_eq_true h,if_pos h]
  rfl
 ·rw [decide_eq_false h,if_neg h]
  rfl
theorem headOk_parts {n:Int} {s:ByteArray} (h:headOk n s=true):0≤n∧n≤200∧s.size=32:=by
 unfold headOk at h
 by_cases hn:0≤n∧n≤200
 ·rw [if_pos hn] at h
  have:=beq_iff_eq.1 h
  omega
 ·rw [if_neg hn] at h
  cases h
theorem nums_eq {l m:List Int} (hl:InB l) (hm:InB m):((strOfNums l).toList == (strOfNums m).toList)=decide (l=m):=by
 by_cases h:l=m
 ·rw [decide_eq_true h,h]
  simp
 ·rw [decide_eq_false h,beq_eq_false_iff_ne]
  intro e
  apply h
  have e2:strOfNums l=strOfNums m:=bytes_ext e
  rw [← bytes_nums l hl,← bytes_nums m hm,e2]
theorem gtext_bad (b:List Int) (hb:InB b) (hl:b.length≤1099511627776) (at_:Int) (h0:-9223372036854775808≤at_) (h1:at_≤9223372036854775807):Ev (fun q=>impl_getter_text.f q b at_ true) ((⟨#[]⟩:ByteArray),at_,true):=by
 obtain ⟨m,x,ok,e1,e2,hN⟩:=getText_both b hb hl at_ h0 h1
 unfold impl_getter_text.f
 exact Ev.bind e2 (Ev.pos rfl (Ev.now _))
theorem gtexts_bad (b:List Int) (hb:InB b) (hl:b.length≤1099511627776) (at_:Int) (h0:-9223372036854775808≤at_) (h1:at_≤9223372036854775807):Ev (fun q=>impl_getter_texts.f q b at_ true) (([]:List ByteArray),at_,true):=by
 obtain ⟨m,x,ok,e1,e2,hN⟩:=getTexts_both b hb hl at_ h0 h1
 unfold impl_getter_texts.f
 exact Ev.bind e2 (Ev.pos rfl (Ev.now _))
theorem gnum_go {b:List Int} {at_ m x:Int} {ok:Bool} (h:Ev (fun q=>impl_GetNum.f q b at_) (m,x,ok)):Ev (fun q=>impl_getter_num.f q b at_ false) (if ok=true then (m,x,false) else (0,at_,true)):=by
 unfold impl_getter_num.f
 refine Ev.bind h (Ev.neg (by simp) ?_)
 cases ok with
 | true=>exact Ev.pos rfl (Ev.now _)
 | false=>exact Ev.neg (by simp) (Ev.now _)
theorem gtext_go {b:List Int} {at_ x:Int} {s:ByteArray} {ok:Bool} (h:Ev (fun q=>impl_GetText.f q b at_) (s,x,ok)):Ev (fun q=>impl_getter_text.f q b at_ false) (if ok=true then (s,x,false) else ((⟨#[]⟩:ByteArray),at_,true)):=by
 unfold impl_getter_text.f
 refine Ev.bind h (Ev.neg (by simp) ?_)
 cases ok with
 | true=>exact Ev.pos rfl (Ev.now _)
 | false=>exact Ev.neg (by simp) (Ev.now _)
theorem gtexts_go {b:List Int} {at_ x:Int} {t:List ByteArray} {ok:Bool} (h:Ev (fun q=>impl_GetTexts.f q b at_) (t,x,ok)):Ev (fun q=>impl_getter_texts.f q b at_ false) (if ok=true then (t,x,false) else (([]:List ByteArray),at_,true)):=by
 unfold impl_getter_texts.f
 refine Ev.bind h (Ev.neg (by simp) ?_)
 cases ok with
 | true=>exact Ev.pos rfl (Ev.now _)
 | false=>exact Ev.neg (by simp) (Ev.now _)
theorem manyB_inB (t:List ByteArray):InB (manyB t):=by
 induction t with
 | nil=>exact inB_nil
 | cons s t ih =>
  rw [manyB_cons]
  exact inB_app (textB_inB s) ih
theorem textsB_inB (t:List ByteArray):InB (textsB t):=inB_app (num_inB _) (manyB_inB t)
theorem manyB_ge (t:List ByteArray):total t+t.length≤((manyB t).length:Int):=by
 induction t with
 | nil=>simp [manyB_nil,total]
 | cons s t ih =>
  have:=num_pos s.size
  rw [manyB_cons,List.length_append,textB_length,total_cons,List.length_cons]
  omega
theorem num_step (b:List Int) (hb:InB b) (hl:b.length≤1099511627776) (a:Nat) (ha:a≤b.length) :
  (Ev (fun q=>spec_GetNum.f q b (a:Int)) (0,0,false)∧Ev (fun q=>impl_getter_num.f q b (a:Int) false) (0,(a:Int),true)∧∀ (n:Nat) r,b.drop a=num n ++ r->n≤1000000000->False) ∨
  (∃ n p:Nat,n≤1000000000∧p≤b.length∧b.drop a=num n ++ b.drop p∧p=a+(num n).length∧Ev (fun q=>spec_GetNum.f q b (a:Int)) ((n:Int),(p:Int),true)∧Ev (fun q=>impl_getter_num.f q b (a:Int) false) ((n:Int),(p:Int),false)):=by
 obtain ⟨m,x,ok,e1,e2,hN⟩:=getNum_both b hb hl (a:Int) (by omega) (by omega)
 have g:=gnum_go e2
 cases ok with
 | false =>
  rw [if_neg (by simp)] at g
  obtain ⟨rfl,rfl,h3⟩:=hN.1 rfl
  exact .inl ⟨e1,g,fun n r h1 h2=>h3 a n r rfl h1 h2⟩
 | true =>
  rw [if_pos rfl] at g
  obtain ⟨a',n,ha',rfl,h1,h2,rfl,h4⟩:=hN.2 rfl
  obtain rfl:a=a':=by omega
  exact .inr ⟨n,_,h1,h4,h2,rfl,e1,g⟩
theorem text_step (b:List Int) (hb:InB b) (hl:b.length≤1099511627776) (a:Nat) (ha:a≤b.length) :
  (Ev (fun q=>spec_GetText.f q b (a:Int)) ((⟨#[]⟩:ByteArray),0,false)∧Ev (fun q=>impl_getter_text.f q b (a:Int) false) ((⟨#[]⟩:ByteArray),(a:Int),true)∧∀ (s:ByteArray) r,b.drop a=textB s ++ r->s.size≤1000000000->False) ∨
  (∃ (s:ByteArray) (p:Nat),s.size≤1000000000∧p≤b.length∧b.drop a=textB s ++ b.drop p∧p=a+(textB s).length∧Ev (fun q=>spec_GetText.f q b (a:Int)) (s,(p:Int),true)∧Ev (fun q=>impl_getter_text.f q b (a:Int) false) (s,(p:Int),false)):=by
 obtain ⟨m,x,ok,e1,e2,hN⟩:=getText_both b hb hl (a:Int) (by omega) (by omega)
 have g:=gtext_go e2
 cases ok with
 | false =>
  rw [if_neg (by simp)] at g
  obtain ⟨rfl,rfl,h3⟩:=hN.1 rfl
  exact .inl ⟨e1,g,fun n r h1 h2=>h3 a n r rfl h1 h2⟩
 | true =>
  rw [if_pos rfl] at g
  obtain ⟨a',ha',h1,h2,rfl,h4⟩:=hN.2 rfl
  obtain rfl:a=a':=by omega
  exact .inr ⟨m,_,h1,h4,h2,rfl,e1,g⟩
theorem texts_step (b:List Int) (hb:InB b) (hl:b.length≤1099511627776) (a:Nat) (ha:a≤b.length) :
  (Ev (fun q=>spec_GetTexts.f q b (a:Int)) (([]:List ByteArray),0,false)∧Ev (fun q=>impl_getter_texts.f q b (a:Int) false) (([]:List ByteArray),(a:Int),true)∧∀ (t:List ByteArray) r,b.drop a=textsB t ++ r->t.length≤200->(∀ s ∈ t,s.size≤1000000000)->False) ∨
  (∃ (t:List ByteArray) (p:Nat),t.length≤200∧(∀ s ∈ t,s.size≤1000000000)∧p≤b.length∧b.drop a=textsB t ++ b.drop p∧p=a+(textsB t).length∧Ev (fun q=>spec_GetTexts.f q b (a:Int)) (t,(p:Int),true)∧Ev (fun q=>impl_getter_texts.f q b (a:Int) false) (t,(p:Int),false)):=by
 obtain ⟨m,x,ok,e1,e2,hN⟩:=getTexts_both b hb hl (a:Int) (by omega) (by omega)
 have g:=gtexts_go e2
 cases ok with
 | false =>
  rw [if_neg (by simp)] at g
  obtain ⟨rfl,rfl,h3⟩:=hN.1 rfl
  exact .inl ⟨e1,g,fun n r h1 h2 h5=>h3 a n r rfl h1 h2 h5⟩
 | true =>
  rw [if_pos rfl] at g
  obtain ⟨a',ha',h1,h5,h2,rfl,h4⟩:=hN.2 rfl
  obtain rfl:a=a':=by omega
  exact .inr ⟨m,_,h1,h5,h4,h2,rfl,e1,g⟩
theorem text_any (b:List Int) (hb:InB b) (hl:b.length≤1099511627776) (x:Int) (h:0≤x∧x≤b.length):∃ m y ok,Ev (fun q=>spec_GetText.f q b x) (m,y,ok)∧0≤y∧y≤b.length:=by
 obtain ⟨a,rfl⟩:=Int.eq_ofNat_of_zero_le h.1
 rcases text_step b hb hl a (by omega) with ⟨e,_⟩|⟨n,p,_,h2,_,_,e,_⟩
 ·exact ⟨_,_,_,e,by omega,by omega⟩
 ·exact ⟨_,_,_,e,by omega,by omega⟩
theorem texts_any (b:List Int) (hb:InB b) (hl:b.length≤1099511627776) (x:Int) (h:0≤x∧x≤b.length):∃ m y ok,Ev (fun q=>spec_GetTexts.f q b x) (m,y,ok)∧0≤y∧y≤b.length:=by
 obtain ⟨a,rfl⟩:=Int.eq_ofNat_of_zero_le h.1
 rcases texts_step b hb hl a (by omega) with ⟨e,_⟩|⟨n,p,_,_,h2,_,_,e,_⟩
 ·exact ⟨_,_,_,e,by omega,by omega⟩
 ·exact ⟨_,_,_,e,by omega,by omega⟩
def bodyB (n:Nat) (s:ByteArray) (t:List ByteArray):List Int:=num n ++ (textB s ++ textsB t)
def sumB (l:List Int):List Int:=bytesOf ((sha l).extract 0 4)
def commitB (n:Nat) (s:ByteArray) (t:List ByteArray):List Int:=num (bodyB n s t).length ++ (bodyB n s t ++ sumB (bodyB n s t))
theorem sumB_length (l:List Int):(sumB l).length=4:=by
 unfold sumB
 rw [bytesOf_length,ByteArray.size_extract,sha_size]
 rfl
theorem bodyB_inB (n:Nat) (s:ByteArray) (t:List ByteArray):InB (bodyB n s t):=inB_app (num_inB _) (inB_app (textB_inB _) (textsB_inB _))
theorem sumB_inB (l:List Int):InB (sumB l):=inB_text _
theorem commitB_inB (n:Nat) (s:ByteArray) (t:List ByteArray):InB (commitB n s t):=inB_app (num_inB _) (inB_app (bodyB_inB _ _ _) (sumB_inB _))
theorem bodyB_ge (n:Nat) (s:ByteArray) (t:List ByteArray):total t+t.length+s.size≤((bodyB n s t).length:Int):=by
 have h:=manyB_ge t
 unfold bodyB textsB
 rw [List.length_append,List.length_append,List.length_append,textB_length]
 omega
theorem bodyB_inj {n m:Nat} {s u:ByteArray} {t v:List ByteArray} {r q:List Int} (h:bodyB n s t ++ r=bodyB m u v ++ q):n=m∧s=u∧t=v∧r=q:=by
 unfold bodyB at h
 simp only [List.append_assoc] at h
 obtain ⟨h1,h⟩:=num_inj _ _ _ _ h
 obtain ⟨h2,h⟩:=textB_inj h
 obtain ⟨h3,h⟩:=textsB_inj h
 exact ⟨h1,h2,h3,h⟩
theorem commitB_inj {n m:Nat} {s u:ByteArray} {t v:List ByteArray} {r q:List Int} (h:commitB n s t ++ r=commitB m u v ++ q):n=m∧s=u∧t=v∧r=q:=by
 unfold commitB at h
 simp only [List.append_assoc] at h
 obtain ⟨h1,h⟩:=num_inj _ _ _ _ h
 obtain ⟨h2,h3⟩:=List.append_inj h h1
 obtain ⟨a,b,c,_⟩:=bodyB_inj (show bodyB n s t ++ []=bodyB m u v ++ [] by rw [h2])
 subst a b c
 obtain ⟨_,h4⟩:=List.append_inj h3 rfl
 exact ⟨rfl,rfl,rfl,h4⟩
theorem putCommit_val (n:Nat) (s:ByteArray) (t:List ByteArray) (hn:n≤200) (hs:s.size≤1000) (ht:t.length≤1000000) (htt:total t≤100000000) (hx:∀ x ∈ t,x.size≤1000000000):Ev (fun q=>impl_putCommit.f q (n:Int) s t) (commitB n s t):=by
 have ht0:=total_nonneg t
 have a2:=(putNum_val [] n (by omega) (by simp)).2
 have h5:=num_five (show n≤1000000000 by omega)
 have hs5:=num_five (show s.size≤1000000000 by omega)
 have b2:=(putText_val ([] ++ num n) s (by omega) (by simp;omega)).2
 have c2:=(putTexts_val ([] ++ num n ++ textB s) t (by rw [List.length_append,textB_length];simp;omega) (by omega) hx).2
 have eb:[] ++ num n ++ textB s ++ textsB t=bodyB n s t:=by
  unfold bodyB
  simp
 rw [eb] at c2
 have hm:=manyB_length t hx
 have ht5:=num_five (show t.length≤1000000000 by omega)
 have hbl:(bodyB n s t).length≤1000000000:=by
  unfold bodyB textsB
  rw [List.length_append,List.length_append,List.length_append,textB_length]
  omega
 have h4:((sha (bodyB n s t)).extract 0 4).size=4:=by
  rw [ByteArray.size_extract,sha_size]
  rfl
 have h32:(sha (bodyB n s t)).size=32:=sha_size _
 have d2:=(putNum_val [] (bodyB n s t).length hbl (by simp)).2
 have hd5:=num_five hbl
 rw [List.nil_append] at d2
 unfold impl_putCommit.f commitB sumB
 refine Ev.bind a2 (Ev.bind b2 (Ev.bind c2 (Ev.bind d2 (Ev.pos (by omega) (Ev.bind (Ev.now _) (Ev.bind (Ev.const (impl_Digest_is (bodyB n s t) (by omega))) ?_))))))
 rw [← List.append_assoc]
 exact Ev.pos (by omega) (Ev.pos (by omega) (Ev.pos (by rw [List.length_append,h4];omega) (Ev.now _)))
theorem PutCommit_val (n:Int) (s:ByteArray) (t:List ByteArray) (htt:total t≤100000000) (ht:t.length≤1000000) (hx:∀ x ∈ t,x.size≤1000000000):Ev (fun q=>impl_PutCommit.f q n s t) (if headOk n s=true∧1≤t.length∧t.length≤200 then commitB n.toNat s t else []):=by
 unfold impl_PutCommit.f
 by_cases h:headOk n s=true
 ·obtain ⟨h1,h2,h3⟩:=headOk_parts h
  refine Ev.bind (Ev.const (impl_HeadOk_eq n s)) (Ev.pos h ?_)
  by_cases hl:1≤(t.length:Int)∧(t.length:Int)≤200
  ·rw [if_pos ⟨h,by omega,by omega⟩]
   have hv:=putCommit_val n.toNat s t (by omega) (by omega) ht htt hx
   rw [show ((n.toNat:Nat):Int)=n by omega] at hv
   exact Ev.bind (Ev.const (impl_in_eq _ _ _)) (Ev.pos (decide_eq_true hl) (Ev.bind hv (Ev.now _)))
  ·rw [if_neg (fun q=>hl ⟨by omega,by omega⟩)]
   exact Ev.bind (Ev.const (impl_in_eq _ _ _)) (Ev.neg (by rw [decide_eq_false hl];simp) (Ev.now _))
 ·rw [if_neg (fun q=>h q.1)]
  exact Ev.bind (Ev.const (impl_HeadOk_eq n s)) (Ev.neg h (Ev.now _))
theorem commitB_length (n:Nat) (s:ByteArray) (t:List ByteArray):(commitB n s t).length=(num (bodyB n s t).length).length+(bodyB n s t).length+4:=by
 unfold commitB
 rw [List.length_append,List.length_append,sumB_length]
 omega
def CommitOf (b:List Int) (at_ n:Int) (s:ByteArray) (t:List ByteArray) (nx:Int) (ok:Bool):Prop :=
 (ok=true->∃ a N:Nat,at_=(a:Int)∧n=(N:Int)∧headOk n s=true∧1≤t.length∧b.drop a=commitB N s t ++ b.drop (a+(commitB N s t).length)∧nx=((a+(commitB N s t).length:Nat):Int)∧a+(commitB N s t).length≤b.length) ∧
 (ok=false->n=0∧s=⟨#[]⟩∧t=[]∧nx=at_∧∀ (a N:Nat) (s':ByteArray) (t':List ByteArray) r,at_=(a:Int)->b.drop a=commitB N s' t' ++ r->headOk (N:Int) s'=true->1≤t'.length->t'.length≤200->(∀ x ∈ t',x.size≤1000000000)->False)
set_option maxHeartbeats 1000000 in
theorem getCommitI (b:List Int) (hb:InB b) (hl:b.length≤10000000) (at_:Int) (h0:-9223372036854775808≤at_) (h1:at_≤9223372036854775807) :
  ∃ n s t nx ok,Ev (fun q=>impl_GetCommit.f q b at_) (n,s,t,nx,ok)∧t.length≤200∧CommitOf b at_ n s t nx ok:=by
 obtain ⟨m,x,ok,_,e2,hN⟩:=getNum_both b hb (by omega) at_ h0 h1
 have jT:∀ m x:Int,Ev (fun q=>impl_GetCommit.j0 q b at_ m x true) (0,(⟨#[]⟩:ByteArray),([]:List ByteArray),at_,false):=fun m x=>by
  refine Ev.step (fun q=>by simp only [impl_GetCommit.j0];rfl) ?_
  exact Ev.pos trivial (Ev.now _)
 have bad:∀ P:Prop,(∀ (a N:Nat) (s':ByteArray) (t':List ByteArray) r,at_=(a:Int)->b.drop a=commitB N s' t' ++ r->headOk (N:Int) s'=true->1≤t'.length->t'.length≤200->(∀ x ∈ t',x.size≤1000000000)->False)->CommitOf b at_ 0 ⟨#[]⟩ [] at_ false:=fun _ h=>⟨fun q=>(by cases q),fun _=>⟨rfl,rfl,rfl,rfl,h⟩⟩
 unfold impl_GetCommit.f
 cases ok with
 | false =>
  obtain ⟨rfl,rfl,h3⟩:=hN.1 rfl
  refine ⟨0,⟨#[]⟩,[],at_,false,Ev.bind e2 (Ev.neg (by simp) (jT _ _)),by simp,bad True fun a N s' t' r ha hr _ _ _ _=>?_⟩
  unfold commitB at hr
  rw [List.append_assoc] at hr
  refine h3 a _ _ ha hr ?_
  have:=congrArg List.length hr
  simp only [List.length_append,List.length_drop] at this
  omega
 | true =>
  obtain ⟨a,m,rfl,rfl,hm,hd,rfl,hle⟩:=hN.2 rfl
  have hp1:=num_pos m
  obtain ⟨p,hp⟩:∃ p,a+(num m).length=p:=⟨_,rfl⟩
  rw [hp] at e2 hd hle
  clear hN
  have cut:∀ (N:Nat) (s':ByteArray) (t':List ByteArray) r,b.drop a=commitB N s' t' ++ r->m=(bodyB N s' t').length∧b.drop p=bodyB N s' t' ++ (sumB (bodyB N s' t') ++ r):=fun N s' t' r hr=>by
   unfold commitB at hr
   rw [hd,List.append_assoc,List.append_assoc] at hr
   exact num_inj _ _ _ _ hr
  have w1:wrap64 ((b.length:Int) - (p:Int))=(b.length:Int) - (p:Int):=w64 (by omega) (by omega)
  have w2:wrap64 ((b.length:Int) - (p:Int) - 4)=(b.length:Int) - (p:Int) - 4:=w64 (by omega) (by omega)
  by_cases hg:(m:Int) > (b.length:Int) - (p:Int) - 4
  ·refine ⟨0,⟨#[]⟩,[],(a:Int),false,?_,by simp,bad True fun a' N s' t' r ha hr _ _ _ _=>?_⟩
   ·refine Ev.bind e2 (Ev.pos rfl ?_)
    simp only [w1,w2,decide_eq_true hg]
    exact jT _ _
   ·obtain rfl:a=a':=by omega
    obtain ⟨k1,k2⟩:=cut N s' t' r hr
    have:=congrArg List.length k2
    simp only [List.length_append,List.length_drop,sumB_length] at this
    omega
  ·have w3 : wrap64 ((p:Int) + (m:Int))=((p+m:Nat):Int):=by
    rw [w64 (by omega) (by omega)]
    omega
   have w4:wrap64 (((p+m:Nat):Int) + 4)=((p+m+4:Nat):Int):=by
    rw [w64 (by omega) (by omega)]
    omega
   have t1:((p+m:Nat):Int).toNat=p+m:=Int.toNat_natCast _
   have t2:(p:Int).toNat=p:=Int.toNat_natCast _
   have t3:((p+m+4:Nat):Int).toNat=p+m+4:=Int.toNat_natCast _
   have t4:(a:Int).toNat=a:=Int.toNat_natCast _
   obtain ⟨B,hB⟩:∃ B,(b.take (p+m)).drop p=B:=⟨_,rfl⟩
   have hB2:B=(b.drop p).take m:=by
    rw [← hB,List.drop_take]
    congr 1
    omega
   have hBl:B.length=m:=by
    rw [hB2,List.length_take,List.length_drop]
    omega
   have hBb:InB B:=by
    rw [hB2]
    exact inB_take (inB_drop hb p) m
   have cutB:∀ (N:Nat) (s':ByteArray) (t':List ByteArray) r,b.drop a=commitB N s' t' ++ r->B=bodyB N s' t':=fun N s' t' r hr=>by
    obtain ⟨k1,k2⟩:=cut N s' t' r hr
    rw [hB2,k2,k1,List.take_left]
   obtain ⟨E,hE⟩:∃ E,(b.take (p+m+4)).drop a=E:=⟨_,rfl⟩
   have start:∀ r,Ev (fun q=>(impl_getter_num.f q B 0 false).bind fun bt7=>((impl_getter_text.f q B bt7.2.1 bt7.2.2).bind fun bt11=>((impl_getter_texts.f q B bt11.2.1 bt11.2.2).bind fun bt14=>(if bt14.2.2=true then (some (0,(⟨#[]⟩:ByteArray),([]:List ByteArray),(a:Int),false)) else ((impl_PutCommit.f q bt7.1 bt11.1 bt14.1).bind fun t19=>((bytes_Equal.f t19 E).bind fun t23=>(if t23=true then (some (bt7.1,bt11.1,bt14.1,((p+m+4:Nat):Int),true)) else (some (0,(⟨#[]⟩:ByteArray),([]:List ByteArray),(a:Int),false))))))))) r->Ev (fun q=>(impl_GetNum.f q b (a:Int)).bind fun bt2=>(if bt2.2.2=true then (impl_GetCommit.j0 q b (a:Int) bt2.1 bt2.2.1 (decide (bt2.1 > (wrap64 ((wrap64 ((b.length:Int) - bt2.2.1)) - 4))))) else (impl_GetCommit.j0 q b (a:Int) bt2.1 bt2.2.1 true))) r:=fun r hr=>by
    refine Ev.bind e2 (Ev.pos rfl ?_)
    simp only [w1,w2,decide_eq_false hg]
    refine Ev.step (fun q=>by simp only [impl_GetCommit.j0,w3,w4,t1,t2,t3,t4,hB,hE];rfl) ?_
    refine Ev.neg (by simp) (Ev.pos (by omega) (Ev.pos (by omega) (Ev.pos (by omega) ?_)))
    have i1:(0:Int)≤(a:Int):=by omega
    have i2:(a:Int)≤((p+m+4:Nat):Int):=by omega
    have i3:((p+m+4:Nat):Int)≤(b.length:Int):=by omega
    simp only [if_pos i1,if_pos i2,if_pos i3]
    exact hr
   rcases num_step B hBb (by omega) 0 (by omega) with ⟨_,g0,z0⟩|⟨v0,p1,q0,l0,y0,r0,_,g0⟩
   ·refine ⟨0,⟨#[]⟩,[],(a:Int),false,start _ (Ev.bind g0 (Ev.bind (gtext_bad B hBb (by omega) 0 (by omega) (by omega)) (Ev.bind (gtexts_bad B hBb (by omega) 0 (by omega) (by omega)) (Ev.pos rfl (Ev.now _))))),by simp,bad True fun a' N s' t' r ha hr hk c1 c2 c3=>?_⟩
    obtain rfl:a=a':=by omega
    have hh:=headOk_parts hk
    exact z0 N _ (show B.drop 0=num N ++ (textB s' ++ textsB t') from cutB N s' t' r hr) (by omega)
   ·rcases text_step B hBb (by omega) p1 (by omega) with ⟨_,g1,z1⟩|⟨v1,p2,q1,l1,y1,r1,_,g1⟩
    ·refine ⟨0,⟨#[]⟩,[],(a:Int),false,start _ (Ev.bind g0 (Ev.bind g1 (Ev.bind (gtexts_bad B hBb (by omega) (p1:Int) (by omega) (by omega)) (Ev.pos rfl (Ev.now _))))),by simp,bad True fun a' N s' t' r ha hr hk c1 c2 c3=>?_⟩
     obtain rfl:a=a':=by omega
     have hh:=headOk_parts hk
     have d0:B.drop 0=num N ++ (textB s' ++ textsB t'):=cutB N s' t' r hr
     have d1:=(num_inj _ _ _ _ (y0.symm.trans d0)).2
     exact z1 s' _ d1 (by omega)
    ·rcases texts_step B hBb (by omega) p2 (by omega) with ⟨_,g2,z2⟩|⟨v2,p3,q2,s2,l2,y2,r2,_,g2⟩
     ·refine ⟨0,⟨#[]⟩,[],(a:Int),false,start _ (Ev.bind g0 (Ev.bind g1 (Ev.bind g2 (Ev.pos rfl (Ev.now _))))),by simp,bad True fun a' N s' t' r ha hr hk c1 c2 c3=>?_⟩
      obtain rfl:a=a':=by omega
      have d0:B.drop 0=num N ++ (textB s' ++ textsB t'):=cutB N s' t' r hr
      have d1:=(num_inj _ _ _ _ (y0.symm.trans d0)).2
      have d2:=(textB_inj (y1.symm.trans d1)).2
      exact z2 t' [] (by rw [List.append_nil];exact d2) c2 c3
     ·have hBB:B=bodyB v0 v1 v2 ++ B.drop p3:=by
       have e:B.drop 0=num v0 ++ (textB v1 ++ (textsB v2 ++ B.drop p3)):=by rw [y0,y1,y2]
       unfold bodyB
       simp only [List.append_assoc]
       exact e
      have hge:=bodyB_ge v0 v1 v2
      have hBBl:(bodyB v0 v1 v2).length≤m:=by
       have:=congrArg List.length hBB
       rw [List.length_append] at this
       omega
      have ht0:=total_nonneg v2
      have hP:=PutCommit_val (v0:Int) v1 v2 (by omega) (by omega) s2
      rw [Int.toNat_natCast] at hP
      have hEb:InB E:=by
       rw [← hE]
       exact inB_drop (inB_take hb _) _
      have hEl:E.length=(num m).length+m+4:=by
       rw [← hE,List.length_drop,List.length_take]
       omega
      have hEd:b.drop a=E ++ b.drop (p+m+4):=by
       have e3:b.drop a=(b.drop a).take (p+m+4 - a) ++ (b.drop a).drop (p+m+4 - a):=(List.take_append_drop _ _).symm
       rw [List.drop_drop,← List.drop_take,show a+(p+m+4 - a)=p+m+4 by omega,hE] at e3
       exact e3
      obtain ⟨W,hW⟩:∃ W,(if headOk (v0:Int) v1=true∧1≤v2.length∧v2.length≤200 then commitB v0 v1 v2 else [])=W:=⟨_,rfl⟩
      rw [hW] at hP
      have hWb:InB W:=by
       rw [← hW]
       split
       ·exact commitB_inB _ _ _
       ·exact inB_nil
      have hQ:bytes_Equal.f W E=some (decide (W=E)):=by
       unfold bytes_Equal.f
       rw [nums_eq hWb hEb]
      by_cases he:W=E
      ·have hc:headOk (v0:Int) v1=true∧1≤v2.length∧v2.length≤200:=Classical.byContradiction fun hn=>by
        rw [if_neg hn] at hW
        rw [← hW] at he
        have:=congrArg List.length he
        rw [hEl] at this
        simp only [List.length_nil] at this
        omega
       rw [if_pos hc] at hW
       have hlen:(commitB v0 v1 v2).length=(num m).length+m+4:=by rw [hW,he,hEl]
       refine ⟨(v0:Int),v1,v2,((p+m+4:Nat):Int),true,start _ (Ev.bind g0 (Ev.bind g1 (Ev.bind g2 (Ev.neg (by simp) (Ev.bind hP (Ev.bind (Ev.const hQ) (Ev.pos (decide_eq_true he) (Ev.now _)))))))),q2,fun _=>⟨a,v0,rfl,rfl,hc.1,hc.2.1,?_,?_,?_⟩,fun h=>(by cases h)⟩
       ·rw [hlen,hW,he,show a+((num m).length+m+4)=p+m+4 by omega]
        exact hEd
       ·rw [hlen]
        congr 1
        omega
       ·rw [hlen]
        omega
      ·refine ⟨0,⟨#[]⟩,[],(a:Int),false,start _ (Ev.bind g0 (Ev.bind g1 (Ev.bind g2 (Ev.neg (by simp) (Ev.bind hP (Ev.bind (Ev.const hQ) (Ev.neg (by rw [decide_eq_false he];simp) (Ev.now _)))))))),by simp,bad True fun a' N s' t' r ha hr hk c1 c2 c3=>?_⟩
       obtain rfl:a=a':=by omega
       have hb2:=cutB N s' t' r hr
       obtain ⟨k1,k2⟩:=cut N s' t' r hr
       obtain ⟨rfl,rfl,rfl,_⟩:=bodyB_inj (show bodyB v0 v1 v2 ++ B.drop p3=bodyB N s' t' ++ [] by rw [List.append_nil,← hBB,hb2])
       rw [if_pos ⟨hk,c1,c2⟩] at hW
       apply he
       rw [← hW]
       have hcl:=commitB_length v0 v1 v2
       rw [← k1] at hcl
       exact (List.append_inj (hr.symm.trans hEd) (by rw [hcl,hEl])).1
theorem nums_bytes (s:ByteArray):strOfNums (bytesOf s)=s:=bytesOf_inj (bytes_nums _ (inB_text s))
theorem sum_iff {G:List Int} (hG:InB G) (B:List Int):(strOfNums G).toList=((sha B).extract 0 4).toList ↔ G=sumB B:=by
 unfold sumB
 constructor
 ·intro h
  rw [← bytes_nums G hG,bytes_ext h]
 ·intro h
  rw [h,nums_bytes]
set_option maxHeartbeats 1000000 in
theorem getCommitS (b:List Int) (hb:InB b) (hl:b.length≤10000000) (at_:Int) (h0:-9223372036854775808≤at_) (h1:at_≤9223372036854775807) :
  ∃ n s t nx ok,Ev (fun q=>spec_GetCommit.f q b at_) (n,s,t,nx,ok)∧t.length≤200∧CommitOf b at_ n s t nx ok:=by
 obtain ⟨m,x,ok,e2,_,hN⟩:=getNum_both b hb (by omega) at_ h0 h1
 have jT:∀ m x:Int,Ev (fun q=>spec_GetCommit.j0 q b at_ m x true) (0,(⟨#[]⟩:ByteArray),([]:List ByteArray),at_,false):=fun m x=>by
  refine Ev.step (fun q=>by simp only [spec_GetCommit.j0];rfl) ?_
  exact Ev.pos trivial (Ev.now _)
 have bad:∀ P:Prop,(∀ (a N:Nat) (s':ByteArray) (t':List ByteArray) r,at_=(a:Int)->b.drop a=commitB N s' t' ++ r->headOk (N:Int) s'=true->1≤t'.length->t'.length≤200->(∀ x ∈ t',x.size≤1000000000)->False)->CommitOf b at_ 0 ⟨#[]⟩ [] at_ false:=fun _ h=>⟨fun q=>(by cases q),fun _=>⟨rfl,rfl,rfl,rfl,h⟩⟩
 unfold spec_GetCommit.f
 cases ok with
 | false =>
  obtain ⟨rfl,rfl,h3⟩:=hN.1 rfl
  refine ⟨0,⟨#[]⟩,[],at_,false,Ev.bind e2 (Ev.neg (by simp) (jT _ _)),by simp,bad True fun a N s' t' r ha hr _ _ _ _=>?_⟩
  unfold commitB at hr
  rw [List.append_assoc] at hr
  refine h3 a _ _ ha hr ?_
  have:=congrArg List.length hr
  simp only [List.length_append,List.length_drop] at this
  omega
 | true =>
  obtain ⟨a,m,rfl,rfl,hm,hd,rfl,hle⟩:=hN.2 rfl
  have hp1:=num_pos m
  obtain ⟨p,hp⟩:∃ p,a+(num m).length=p:=⟨_,rfl⟩
  rw [hp] at e2 hd hle
  clear hN
  have cut:∀ (N:Nat) (s':ByteArray) (t':List ByteArray) r,b.drop a=commitB N s' t' ++ r->m=(bodyB N s' t').length∧b.drop p=bodyB N s' t' ++ (sumB (bodyB N s' t') ++ r):=fun N s' t' r hr=>by
   unfold commitB at hr
   rw [hd,List.append_assoc,List.append_assoc] at hr
   exact num_inj _ _ _ _ hr
  have w1:wrap64 ((b.length:Int) - (p:Int))=(b.length:Int) - (p:Int):=w64 (by omega) (by omega)
  have w2:wrap64 ((b.length:Int) - (p:Int) - 4)=(b.length:Int) - (p:Int) - 4:=w64 (by omega) (by omega)
  by_cases hg:(m:Int) > (b.length:Int) - (p:Int) - 4
  ·refine ⟨0,⟨#[]⟩,[],(a:Int),false,?_,by simp,bad True fun a' N s' t' r ha hr _ _ _ _=>?_⟩
   ·refine Ev.bind e2 (Ev.pos rfl ?_)
    simp only [w1,w2,decide_eq_true hg]
    exact jT _ _
   ·obtain rfl:a=a':=by omega
    obtain ⟨k1,k2⟩:=cut N s' t' r hr
    have:=congrArg List.length k2
    simp only [List.length_append,List.length_drop,sumB_length] at this
    omega
  ·have w3 : wrap64 ((p:Int) + (m:Int))=((p+m:Nat):Int):=by
    rw [w64 (by omega) (by omega)]
    omega
   have w4:wrap64 (((p+m:Nat):Int) + 4)=((p+m+4:Nat):Int):=by
    rw [w64 (by omega) (by omega)]
    omega
   have t1:((p+m:Nat):Int).toNat=p+m:=Int.toNat_natCast _
   have t2:(p:Int).toNat=p:=Int.toNat_natCast _
   have t3:((p+m+4:Nat):Int).toNat=p+m+4:=Int.toNat_natCast _
   obtain ⟨B,hB⟩:∃ B,(b.take (p+m)).drop p=B:=⟨_,rfl⟩
   have hB2:B=(b.drop p).take m:=by
    rw [← hB,List.drop_take]
    congr 1
    omega
   have hBl:B.length=m:=by
    rw [hB2,List.length_take,List.length_drop]
    omega
   have hBb:InB B:=by
    rw [hB2]
    exact inB_take (inB_drop hb p) m
   obtain ⟨G,hG⟩:∃ G,(b.take (p+m+4)).drop (p+m)=G:=⟨_,rfl⟩
   have hGb:InB G:=by
    rw [← hG]
    exact inB_drop (inB_take hb _) _
   have hBG:b.drop p=B ++ (G ++ b.drop (p+m+4)):=by
    have i1:b.drop p=(b.drop p).take m ++ (b.drop p).drop m:=(List.take_append_drop _ _).symm
    have i2:b.drop (p+m)=(b.drop (p+m)).take 4 ++ (b.drop (p+m)).drop 4:=(List.take_append_drop _ _).symm
    have i3:G=(b.drop (p+m)).take 4:=by
     rw [← hG,List.drop_take]
     congr 1
     omega
    rw [List.drop_drop] at i1 i2
    rw [← i3] at i2
    rw [← hB2,i2] at i1
    exact i1
   have cutB:∀ (N:Nat) (s':ByteArray) (t':List ByteArray) r,b.drop a=commitB N s' t' ++ r->B=bodyB N s' t'∧G=sumB (bodyB N s' t'):=fun N s' t' r hr=>by
    obtain ⟨k1,k2⟩:=cut N s' t' r hr
    rw [hBG] at k2
    obtain ⟨k3,k4⟩:=List.append_inj k2 (by rw [hBl,k1])
    refine ⟨k3,(List.append_inj k4 ?_).1⟩
    rw [sumB_length,← hG,List.length_drop,List.length_take]
    omega
   have start:∀ r,Ev (fun q=>(spec_GetNum.f q B 0).bind fun bt9=>((spec_GetText.f q B bt9.2.1).bind fun bt12=>((spec_GetTexts.f q B bt12.2.1).bind fun bt15=>(if bt9.2.2=true then (if bt12.2.2=true then (if bt15.2.2=true then (if bt15.2.1=(B.length:Int) then ((spec_HeadOk.f bt9.1 bt12.1).bind fun t21=>(if t21=true then (if (bt15.1.length:Int)=0 then (some (0,(⟨#[]⟩:ByteArray),(([]:List ByteArray)),(a:Int),false)) else ((spec_Digest.f q B).bind fun t26=>(if 4≤(t26.size:Int) then (if (strOfNums G).toList=(t26.extract 0 4).toList then (some (bt9.1,bt12.1,bt15.1,((p+m+4:Nat):Int),true)) else (some (0,(⟨#[]⟩:ByteArray),(([]:List ByteArray)),(a:Int),false))) else (none)))) else (some (0,(⟨#[]⟩:ByteArray),(([]:List ByteArray)),(a:Int),false)))) else (some (0,(⟨#[]⟩:ByteArray),(([]:List ByteArray)),(a:Int),false))) else (some (0,(⟨#[]⟩:ByteArray),(([]:List ByteArray)),(a:Int),false))) else (some (0,(⟨#[]⟩:ByteArray),(([]:List ByteArray)),(a:Int),false))) else (some (0,(⟨#[]⟩:ByteArray),(([]:List ByteArray)),(a:Int),false)))))) r->Ev (fun q=>(spec_GetNum.f q b (a:Int)).bind fun bt2=>(if bt2.2.2=true then (spec_GetCommit.j0 q b (a:Int) bt2.1 bt2.2.1 (decide (bt2.1 > (wrap64 ((wrap64 ((b.length:Int) - bt2.2.1)) - 4))))) else (spec_GetCommit.j0 q b (a:Int) bt2.1 bt2.2.1 true))) r:=fun r hr=>by
    refine Ev.bind e2 (Ev.pos rfl ?_)
    simp only [w1,w2,decide_eq_false hg]
    have i1:(0:Int)≤((p+m:Nat):Int):=by omega
    have i2:((p+m:Nat):Int)≤((p+m+4:Nat):Int):=by omega
    have i3:((p+m+4:Nat):Int)≤(b.length:Int):=by omega
    have i4:(0:Nat)≤4:=by decide
    refine Ev.step (fun q=>by simp only [spec_GetCommit.j0,w3,w4,t1,t2,t3,hB,hG,if_pos i1,if_pos i2,if_pos i3,if_pos i4];rfl) ?_
    exact Ev.neg (by simp) (Ev.pos (by omega) (Ev.pos (by omega) (Ev.pos (by omega) hr)))
   rcases num_step B hBb (by omega) 0 (by omega) with ⟨g0,_,z0⟩|⟨v0,p1,q0,l0,y0,r0,g0,_⟩
   ·obtain ⟨u1,x1,o1,s1,r1⟩:=text_any B hBb (by omega) 0 (by omega)
    obtain ⟨u2,x2,o2,s2,r2⟩:=texts_any B hBb (by omega) x1 (by omega)
    refine ⟨0,⟨#[]⟩,[],(a:Int),false,start _ (Ev.bind g0 (Ev.bind s1 (Ev.bind s2 (Ev.neg (by simp) (Ev.now _))))),by simp,bad True fun a' N s' t' r ha hr hk c1 c2 c3=>?_⟩
    obtain rfl:a=a':=by omega
    have hh:=headOk_parts hk
    exact z0 N _ (show B.drop 0=num N ++ (textB s' ++ textsB t') from (cutB N s' t' r hr).1) (by omega)
   ·rcases text_step B hBb (by omega) p1 (by omega) with ⟨g1,_,z1⟩|⟨v1,p2,q1,l1,y1,r1,g1,_⟩
    ·obtain ⟨u2,x2,o2,s2,r2⟩:=texts_any B hBb (by omega) 0 (by omega)
     refine ⟨0,⟨#[]⟩,[],(a:Int),false,start _ (Ev.bind g0 (Ev.bind g1 (Ev.bind s2 (Ev.pos rfl (Ev.neg (by simp) (Ev.now _)))))),by simp,bad True fun a' N s' t' r ha hr hk c1 c2 c3=>?_⟩
     obtain rfl:a=a':=by omega
     have hh:=headOk_parts hk
     have d0:B.drop 0=num N ++ (textB s' ++ textsB t'):=(cutB N s' t' r hr).1
     have d1:=(num_inj _ _ _ _ (y0.symm.trans d0)).2
     exact z1 s' _ d1 (by omega)
    ·rcases texts_step B hBb (by omega) p2 (by omega) with ⟨g2,_,z2⟩|⟨v2,p3,q2,s2,l2,y2,r2,g2,_⟩
     ·refine ⟨0,⟨#[]⟩,[],(a:Int),false,start _ (Ev.bind g0 (Ev.bind g1 (Ev.bind g2 (Ev.pos rfl (Ev.pos rfl (Ev.neg (by simp) (Ev.now _))))))),by simp,bad True fun a' N s' t' r ha hr hk c1 c2 c3=>?_⟩
      obtain rfl:a=a':=by omega
      have d0:B.drop 0=num N ++ (textB s' ++ textsB t'):=(cutB N s' t' r hr).1
      have d1:=(num_inj _ _ _ _ (y0.symm.trans d0)).2
      have d2:=(textB_inj (y1.symm.trans d1)).2
      exact z2 t' [] (by rw [List.append_nil];exact d2) c2 c3
     ·have hBB:B=bodyB v0 v1 v2 ++ B.drop p3:=by
       have e:B.drop 0=num v0 ++ (textB v1 ++ (textsB v2 ++ B.drop p3)):=by rw [y0,y1,y2]
       unfold bodyB
       simp only [List.append_assoc]
       exact e
      have same:∀ (N:Nat) (s':ByteArray) (t':List ByteArray) r,b.drop a=commitB N s' t' ++ r->v0=N∧v1=s'∧v2=t'∧B.drop p3=[]∧G=sumB B:=fun N s' t' r hr=>by
       obtain ⟨k1,k2⟩:=cutB N s' t' r hr
       obtain ⟨h1,h2,h3,h4⟩:=bodyB_inj (show bodyB v0 v1 v2 ++ B.drop p3=bodyB N s' t' ++ [] by rw [List.append_nil,← hBB,k1])
       exact ⟨h1,h2,h3,h4,by rw [k1];exact k2⟩
      have hD:=spec_Digest_ev B (by omega) hBb
      have hsz:(sha B).size=32:=sha_size _
      by_cases hp3:(p3:Int)=(B.length:Int)
      ·have hnil:B.drop p3=[]:=List.drop_eq_nil_of_le (by omega)
       rw [hnil,List.append_nil] at hBB
       by_cases hk:headOk (v0:Int) v1=true
       ·by_cases hz:(v2.length:Int)=0
        ·refine ⟨0,⟨#[]⟩,[],(a:Int),false,start _ (Ev.bind g0 (Ev.bind g1 (Ev.bind g2 (Ev.pos rfl (Ev.pos rfl (Ev.pos rfl (Ev.pos hp3 (Ev.bind (Ev.const (spec_HeadOk_eq _ _)) (Ev.pos hk (Ev.pos hz (Ev.now _))))))))))),by simp,bad True fun a' N s' t' r ha hr hk2 c1 c2 c3=>?_⟩
         obtain rfl:a=a':=by omega
         obtain ⟨_,_,rfl,_⟩:=same N s' t' r hr
         omega
        ·by_cases hsum:(strOfNums G).toList=((sha B).extract 0 4).toList
         ·have hGs:=(sum_iff hGb B).1 hsum
          have hlen:(commitB v0 v1 v2).length=(num m).length+m+4:=by rw [commitB_length,← hBB,hBl]
          refine ⟨(v0:Int),v1,v2,((p+m+4:Nat):Int),true,start _ (Ev.bind g0 (Ev.bind g1 (Ev.bind g2 (Ev.pos rfl (Ev.pos rfl (Ev.pos rfl (Ev.pos hp3 (Ev.bind (Ev.const (spec_HeadOk_eq _ _)) (Ev.pos hk (Ev.neg hz (Ev.bind hD (Ev.pos (by omega) (Ev.pos hsum (Ev.now _)))))))))))))),q2,fun _=>⟨a,v0,rfl,rfl,hk,by omega,?_,?_,?_⟩,fun h=>(by cases h)⟩
          ·rw [hlen,show a+((num m).length+m+4)=p+m+4 by omega,hd,hBG,hGs]
           unfold commitB
           rw [← hBB,hBl]
           simp only [List.append_assoc]
          ·rw [hlen]
           congr 1
           omega
          ·rw [hlen]
           omega
         ·refine ⟨0,⟨#[]⟩,[],(a:Int),false,start _ (Ev.bind g0 (Ev.bind g1 (Ev.bind g2 (Ev.pos rfl (Ev.pos rfl (Ev.pos rfl (Ev.pos hp3 (Ev.bind (Ev.const (spec_HeadOk_eq _ _)) (Ev.pos hk (Ev.neg hz (Ev.bind hD (Ev.pos (by omega) (Ev.neg hsum (Ev.now _)))))))))))))),by simp,bad True fun a' N s' t' r ha hr hk2 c1 c2 c3=>?_⟩
          obtain rfl:a=a':=by omega
          obtain ⟨_,_,_,_,h5⟩:=same N s' t' r hr
          exact hsum ((sum_iff hGb B).2 h5)
       ·refine ⟨0,⟨#[]⟩,[],(a:Int),false,start _ (Ev.bind g0 (Ev.bind g1 (Ev.bind g2 (Ev.pos rfl (Ev.pos rfl (Ev.pos rfl (Ev.pos hp3 (Ev.bind (Ev.const (spec_HeadOk_eq _ _)) (Ev.neg hk (Ev.now _)))))))))),by simp,bad True fun a' N s' t' r ha hr hk2 c1 c2 c3=>?_⟩
        obtain rfl:a=a':=by omega
        obtain ⟨rfl,rfl,_⟩:=same N s' t' r hr
        exact hk hk2
      ·refine ⟨0,⟨#[]⟩,[],(a:Int),false,start _ (Ev.bind g0 (Ev.bind g1 (Ev.bind g2 (Ev.pos rfl (Ev.pos rfl (Ev.pos rfl (Ev.neg hp3 (Ev.now _)))))))),by simp,bad True fun a' N s' t' r ha hr hk2 c1 c2 c3=>?_⟩
       obtain rfl:a=a':=by omega
       obtain ⟨_,_,_,h4,_⟩:=same N s' t' r hr
       have:=congrArg List.length h4
       rw [List.length_drop] at this
       simp only [List.length_nil] at this
       omega
theorem commit_small {b:List Int} {a N:Nat} {s:ByteArray} {t:List ByteArray} {r:List Int} (hl:b.length≤10000000) (h:b.drop a=commitB N s t ++ r):∀ x ∈ t,x.size≤1000000000:=fun x hx=>by
 have h1:=congrArg List.length h
 rw [List.length_drop,List.length_append,commitB_length] at h1
 have h2:=bodyB_ge N s t
 have h3:=total_mem hx
 omega
theorem getCommit_both (b:List Int) (hb:InB b) (hl:b.length≤10000000) (at_:Int) (h0:-9223372036854775808≤at_) (h1:at_≤9223372036854775807) :
  ∃ n s t nx ok,Ev (fun q=>spec_GetCommit.f q b at_) (n,s,t,nx,ok)∧Ev (fun q=>impl_GetCommit.f q b at_) (n,s,t,nx,ok)∧t.length≤200:=by
 obtain ⟨n,s,t,nx,ok,e1,ht,c1,c2⟩:=getCommitI b hb hl at_ h0 h1
 obtain ⟨n',s',t',nx',ok',e2,ht',d1,d2⟩:=getCommitS b hb hl at_ h0 h1
 cases ok with
 | true =>
  obtain ⟨a,N,rfl,rfl,hk,hz,hd,rfl,hle⟩:=c1 rfl
  cases ok' with
  | true =>
   obtain ⟨a',N',ha,rfl,hk',hz',hd',rfl,hle'⟩:=d1 rfl
   obtain rfl:a=a':=by omega
   obtain ⟨rfl,rfl,rfl,_⟩:=commitB_inj (hd.symm.trans hd')
   exact ⟨_,_,_,_,_,e2,e1,ht⟩
  | false=>exact absurd ((d2 rfl).2.2.2.2 a N s t _ rfl hd hk hz ht (commit_small hl hd)) id
 | false =>
  obtain ⟨rfl,rfl,rfl,rfl,c3⟩:=c2 rfl
  cases ok' with
  | true =>
   obtain ⟨a',N',rfl,rfl,hk',hz',hd',rfl,hle'⟩:=d1 rfl
   exact absurd (c3 a' N' s' t' _ rfl hd' hk' hz' ht' (commit_small hl hd')) id
  | false =>
   obtain ⟨rfl,rfl,rfl,rfl,_⟩:=d2 rfl
   exact ⟨_,_,_,_,_,e2,e1,ht⟩
def bigB:Nat:=1048608
theorem node_small {a b:ByteArray} (ha:a.size≤bigB) (hb:b.size≤bigB):a.size+b.size≤1099511627775:=by unfold bigB at *;omega
theorem mem_take_of {l:List ByteArray} {n:Nat} (h:∀ x ∈ l,x.size≤bigB):∀ x ∈ l.take n,x.size≤bigB:=fun x hx=>h x (List.mem_of_mem_take hx)
theorem mem_drop_of {l:List ByteArray} {n:Nat} (h:∀ x ∈ l,x.size≤bigB):∀ x ∈ l.drop n,x.size≤bigB:=fun x hx=>h x (List.mem_of_mem_drop hx)
theorem leafs_small (l:List ByteArray):∀ x ∈ l,(leafH x).size≤bigB:=fun x _=>by rw [leafH_size];decide
theorem root_small (l:List ByteArray):(rootBy leafH l).size≤bigB:=rootBy_size leafH bigB (by decide) _ (leafs_small l)
theorem rooted_impl:∀ (n:Nat) (l:List ByteArray),l.length≤n->l.length≤4611686018427387904->(∀ x ∈ l,x.size≤bigB)->Ev (fun k=>impl_rootOf.f k l) (rootBy leafH l):=by
 intro n
 induction n with
 | zero =>
  intro l h1 h2 hs
  obtain rfl:=List.eq_nil_of_length_eq_zero (show l.length=0 by omega)
  rw [rootBy_nil]
  refine Ev.step (fun k=>by simp only [impl_rootOf.f];rfl) ?_
  exact Ev.pos rfl (Ev.bind (Ev.const (impl_Digest_is [] (by decide))) (Ev.now _))
 | succ n ih =>
  intro l h1 h3 hs
  by_cases h:2≤l.length
  ·obtain ⟨p1,p2,p3,p4⟩:=cut_parts l h
   have hh:=half_lt h
   have e1:=ih (l.take (half l.length)) (by omega) (by omega) (mem_take_of hs)
   have e2:=ih (l.drop (half l.length)) (by omega) (by omega) (mem_drop_of hs)
   have e3:=impl_node _ _ (node_small (root_small (l.take (half l.length))) (root_small (l.drop (half l.length))))
   rw [rootBy_more leafH h]
   refine Ev.step (fun k=>by simp only [impl_rootOf.f];rfl) ?_
   refine Ev.neg (by omega) (Ev.neg (by omega) (Ev.bind (impl_half_ev l.length h h3) ?_))
   exact Ev.pos (by omega) (Ev.pos (by omega) (Ev.bind e1 (Ev.bind e2 (Ev.bind (Ev.const e3) (Ev.now _)))))
  ·match l,h with
   | [],_ =>
    rw [rootBy_nil]
    refine Ev.step (fun k=>by simp only [impl_rootOf.f];rfl) ?_
    exact Ev.pos rfl (Ev.bind (Ev.const (impl_Digest_is [] (by decide))) (Ev.now _))
   | [a],_ =>
    rw [rootBy_one]
    have ha:=hs a (by simp)
    refine Ev.step (fun k=>by simp only [impl_rootOf.f];rfl) ?_
    refine Ev.neg (by simp) (Ev.pos rfl (Ev.pos (by simp) ?_))
    exact Ev.bind (Ev.const (impl_leaf a (by unfold bigB at ha;omega))) (Ev.now _)
   | _ :: _ :: _,h=>simp at h
theorem rooted_spec:∀ (n:Nat) (l:List ByteArray),l.length≤n->l.length≤4611686018427387904->(∀ x ∈ l,x.size≤bigB)->Ev (fun k=>spec_l6Root.f k l) (rootBy leafH l):=by
 intro n
 induction n with
 | zero =>
  intro l h1 h2 hs
  obtain rfl:=List.eq_nil_of_length_eq_zero (show l.length=0 by omega)
  rw [rootBy_nil]
  refine Ev.step (fun k=>by simp only [spec_l6Root.f];rfl) ?_
  exact Ev.pos rfl (Ev.bind (spec_Digest_ev [] (by decide) (by simp)) (Ev.now _))
 | succ n ih =>
  intro l h1 h3 hs
  by_cases h:2≤l.length
  ·obtain ⟨p1,p2,p3,p4⟩:=cut_parts l h
   have hh:=half_lt h
   have e1:=ih (l.take (half l.length)) (by omega) (by omega) (mem_take_of hs)
   have e2:=ih (l.drop (half l.length)) (by omega) (by omega) (mem_drop_of hs)
   have e3:=spec_node _ _ (node_small (root_small (l.take (half l.length))) (root_small (l.drop (half l.length))))
   rw [rootBy_more leafH h]
   refine Ev.step (fun k=>by simp only [spec_l6Root.f];rfl) ?_
   refine Ev.neg (by omega) (Ev.neg (by omega) (Ev.bind (spec_half l.length h h3) ?_))
   exact Ev.pos (by omega) (Ev.pos (by omega) (Ev.bind e1 (Ev.bind e2 (Ev.bind e3 (Ev.now _)))))
  ·match l,h with
   | [],_ =>
    rw [rootBy_nil]
    refine Ev.step (fun k=>by simp only [spec_l6Root.f];rfl) ?_
    exact Ev.pos rfl (Ev.bind (spec_Digest_ev [] (by decide) (by simp)) (Ev.now _))
   | [a],_ =>
    rw [rootBy_one]
    have ha:=hs a (by simp)
    refine Ev.step (fun k=>by simp only [spec_l6Root.f];rfl) ?_
    refine Ev.neg (by simp) (Ev.pos rfl (Ev.pos (by simp) ?_))
    exact Ev.bind (spec_leaf a (by unfold bigB at ha;omega)) (Ev.now _)
   | _ :: _ :: _,h=>simp at h
def headOf (l:List ByteArray):Int × ByteArray:=if (l.length:Int) > 200 then (0,⟨#[]⟩) else ((l.length:Int),rootBy leafH l)
theorem headOf_few {l:List ByteArray} (h:l.length≤200):headOf l=((l.length:Int),rootBy leafH l):=if_neg (by omega)
theorem headOf_many {l:List ByteArray} (h:¬ l.length≤200):headOf l=(0,⟨#[]⟩):=if_pos (by omega)
theorem spec_HeadOf_ev (l:List ByteArray) (hs:∀ x ∈ l,x.size≤bigB):Ev (fun k=>spec_HeadOf.f k l) (headOf l):=by
 unfold spec_HeadOf.f
 by_cases h:l.length≤200
 ·rw [headOf_few h]
  exact Ev.neg (by omega) (Ev.bind (rooted_spec l.length l (Nat.le_refl _) (by omega) hs) (Ev.now _))
 ·rw [headOf_many h]
  exact Ev.pos (by omega) (Ev.now _)
theorem impl_HeadOf_ev (l:List ByteArray) (hs:∀ x ∈ l,x.size≤bigB):Ev (fun k=>impl_HeadOf.f k l) (headOf l):=by
 unfold impl_HeadOf.f
 by_cases h:l.length≤200
 ·rw [headOf_few h]
  exact Ev.neg (by omega) (Ev.bind (rooted_impl l.length l (Nat.le_refl _) (by omega) hs) (Ev.now _))
 ·rw [headOf_many h]
  exact Ev.pos (by omega) (Ev.now _)
theorem total_small {l:List ByteArray} (h:total l≤1048576):∀ x ∈ l,x.size≤bigB:=fun x hx=>by
 have:=total_mem hx
 unfold bigB
 omega
def logOk (l:List ByteArray) (n:Int) (s:ByteArray):Bool:=if (l.length:Int)≤200 then (n == (headOf l).1 && (s.toList == (headOf l).2.toList)) else false
theorem spec_LogOk_ev (l:List ByteArray) (n:Int) (s:ByteArray) (hs:∀ x ∈ l,x.size≤bigB):Ev (fun k=>spec_LogOk.f k l n s) (logOk l n s):=by
 unfold spec_LogOk.f logOk
 by_cases h:(l.length:Int)≤200
 ·rw [if_pos h]
  exact Ev.pos h (Ev.bind (spec_HeadOf_ev l hs) (Ev.now _))
 ·rw [if_neg h]
  exact Ev.neg h (Ev.now _)
theorem impl_LogOk_ev (l:List ByteArray) (n:Int) (s:ByteArray) (hs:∀ x ∈ l,x.size≤bigB):Ev (fun k=>impl_LogOk.f k l n s) (logOk l n s):=by
 unfold impl_LogOk.f logOk
 by_cases h:(l.length:Int)≤200
 ·rw [if_pos h]
  exact Ev.pos h (Ev.bind (impl_HeadOf_ev l hs) (Ev.now _))
 ·rw [if_neg h]
  exact Ev.neg h (Ev.now _)
theorem log_new:Ev (fun k=>spec_LogNew.f k) (([]:List ByteArray),(headOf []).1,(headOf []).2):=by
 unfold spec_LogNew.f
 exact Ev.bind (spec_HeadOf_ev [] (by simp)) (Ev.now _)
theorem ev_uniq {α:Type} {g:Nat->Option α} {r q:α} (h:Ev g r) (k:Ev g q):r=q:=by
 obtain ⟨K,h⟩:=h
 obtain ⟨M,k⟩:=k
 exact Option.some.inj ((h (max K M) (Nat.le_max_left _ _)).symm.trans (k (max K M) (Nat.le_max_right _ _)))
theorem getCommit_step (b:List Int) (hb:InB b) (hl:b.length≤1048576) (a:Nat) (ha:a≤b.length) :
  ∃ n s t nx ok,Ev (fun q=>spec_GetCommit.f q b (a:Int)) (n,s,t,nx,ok)∧Ev (fun q=>impl_GetCommit.f q b (a:Int)) (n,s,t,nx,ok)∧t.length≤200∧(∀ x ∈ t,x.size≤bigB) ∧
   (ok=true->∃ c:Nat,nx=(c:Int)∧a < c∧c≤b.length)∧(ok=false->t=[]):=by
 obtain ⟨n,s,t,nx,ok,e1,ht,c1,c2⟩:=getCommitI b hb (by omega) (a:Int) (by omega) (by omega)
 obtain ⟨n',s',t',nx',ok',e2,e3,_⟩:=getCommit_both b hb (by omega) (a:Int) (by omega) (by omega)
 have h:=ev_uniq e3 e1
 simp only [Prod.mk.injEq] at h
 obtain ⟨rfl,rfl,rfl,rfl,rfl⟩:=h
 refine ⟨_,_,_,_,_,e2,e1,ht,?_,?_,?_⟩
 ·cases hok:ok' with
  | true =>
   obtain ⟨a',N,h1,rfl,_,_,hd,_,hle⟩:=c1 hok
   intro x hx
   have h2:=commitB_length N s' t'
   have h3:=bodyB_ge N s' t'
   have h4:=total_mem hx
   unfold bigB
   omega
  | false =>
   obtain ⟨_,_,rfl,_⟩:=c2 hok
   intro x hx
   cases hx
 ·intro hok
  obtain ⟨a',N,h1,rfl,_,_,hd,h2,hle⟩:=c1 hok
  have h3:=commitB_length N s' t'
  exact ⟨_,h2,by omega,hle⟩
 ·intro hok
  exact (c2 hok).2.2.1
theorem sizes_app {l t:List ByteArray} (h:∀ x ∈ l,x.size≤bigB) (k:∀ x ∈ t,x.size≤bigB):∀ x ∈ l ++ t,x.size≤bigB:=fun x hx=>(List.mem_append.1 hx).elim (h x) (k x)
theorem impl_many (b:List Int) (hb:InB b) (hl:b.length≤1048576) (L:List ByteArray) (hL:L.length≤200) (N:Int) (S:ByteArray) (U:Int):∀ (m a:Nat) (T:List ByteArray),b.length - a≤m->a≤b.length->200 < T.length->T.length+200 * (b.length - a)≤1000000000->(∀ x ∈ T,x.size≤bigB) →
  Ev (fun k=>impl_StoreOk.l0 k T (a:Int) L N S b U) false:=by
 intro m
 induction m with
 | zero =>
  intro a T h1 h2 h3 h4 h5
  refine Ev.step (fun k=>by simp only [impl_StoreOk.l0];rfl) ?_
  refine Ev.neg (by omega) (Ev.bind (impl_same_ev T L (by omega)) ?_)
  rw [decide_eq_false (fun e=>by rw [e] at h3;omega)]
  exact Ev.now _
 | succ m ih =>
  intro a T h1 h2 h3 h4 h5
  refine Ev.step (fun k=>by simp only [impl_StoreOk.l0];rfl) ?_
  by_cases ha:(a:Int) < (b.length:Int)
  ·obtain ⟨n,s,t,nx,ok,e1,e2,ht,hs,c1,c2⟩:=getCommit_step b hb hl a h2
   refine Ev.pos ha (Ev.bind e2 ?_)
   simp only
   refine Ev.pos (by omega) ?_
   simp only [Option.bind_some]
   cases ok with
   | false=>exact Ev.neg (by simp) (Ev.now _)
   | true =>
    obtain ⟨c,rfl,h6,h7⟩:=c1 rfl
    refine Ev.pos rfl (Ev.bind (impl_HeadOf_ev (T ++ t) (sizes_app h5 hs)) ?_)
    by_cases hh:(!(n == (headOf (T ++ t)).1) || (!(s.toList == (headOf (T ++ t)).2.toList)))=true
    ·exact Ev.pos hh (Ev.now _)
    ·refine Ev.neg hh (ih c (T ++ t) (by omega) h7 (by rw [List.length_append];omega) (by rw [List.length_append];omega) (sizes_app h5 hs))
  ·refine Ev.neg ha (Ev.bind (impl_same_ev T L (by omega)) ?_)
   rw [decide_eq_false (fun e=>by rw [e] at h3;omega)]
   exact Ev.now _
theorem replay_both (b:List Int) (hb:InB b) (hl:b.length≤1048576) (L:List ByteArray) (hL:L.length≤200) (N:Int) (S:ByteArray) (U:Int):∀ (m a:Nat) (T:List ByteArray) (n:Int) (s:ByteArray),b.length - a≤m->a≤b.length->T.length≤200->(∀ x ∈ T,x.size≤bigB) →
  ∃ T' n' s' ok,Ev (fun k=>spec_l12Replay.l0 k b (a:Int) T n s) (T',n',s',ok)∧T'.length≤200∧(∀ x ∈ T',x.size≤bigB)∧Ev (fun k=>impl_StoreOk.l0 k T (a:Int) L N S b U) (if ok=true then decide (T'=L) else false):=by
 intro m
 induction m with
 | zero =>
  intro a T n s h1 h2 h3 h5
  refine ⟨T,n,s,true,?_,h3,h5,?_⟩
  ·refine Ev.step (fun k=>by simp only [spec_l12Replay.l0];rfl) ?_
   exact Ev.neg (by omega) (Ev.now _)
  ·refine Ev.step (fun k=>by simp only [impl_StoreOk.l0];rfl) ?_
   exact Ev.neg (by omega) (Ev.bind (impl_same_ev T L (by omega)) (Ev.now _))
 | succ m ih =>
  intro a T n s h1 h2 h3 h5
  by_cases ha:(a:Int) < (b.length:Int)
  ·obtain ⟨n1,s1,t,nx,ok,e1,e2,ht,hs,c1,c2⟩:=getCommit_step b hb hl a h2
   cases ok with
   | false =>
    refine ⟨T,n,s,false,?_,h3,h5,?_⟩
    ·refine Ev.step (fun k=>by simp only [spec_l12Replay.l0];rfl) ?_
     refine Ev.pos ha (Ev.bind e1 (Ev.neg (by simp) ?_))
     refine Ev.step (fun k=>by simp only [spec_l12Replay.j1];rfl) ?_
     exact Ev.pos trivial (Ev.now _)
    ·refine Ev.step (fun k=>by simp only [impl_StoreOk.l0];rfl) ?_
     refine Ev.pos ha (Ev.bind e2 (Ev.pos (by simp only;omega) ?_))
     simp only [Option.bind_some]
     exact Ev.neg (by simp) (Ev.now _)
   | true =>
    obtain ⟨c,rfl,h6,h7⟩:=c1 rfl
    have hw:wrap64 ((T.length:Int) + (t.length:Int))=((T.length+t.length:Nat):Int):=by
     rw [w64 (by omega) (by omega)]
     omega
    have hsz:=sizes_app h5 hs
    have hI:∀ r,Ev (fun k=>if (!(n1 == (headOf (T ++ t)).1) || (!(s1.toList == (headOf (T ++ t)).2.toList)))=true then some false else impl_StoreOk.l0 k (T ++ t) (c:Int) L N S b U) r->Ev (fun k=>impl_StoreOk.l0 k T (a:Int) L N S b U) r:=by
     intro r hr
     refine Ev.step (fun k=>by simp only [impl_StoreOk.l0];rfl) ?_
     refine Ev.pos ha (Ev.bind e2 (Ev.pos (by simp only;omega) ?_))
     simp only [Option.bind_some]
     exact Ev.pos trivial (Ev.bind (impl_HeadOf_ev (T ++ t) hsz) hr)
    by_cases hm:T.length+t.length≤200
    ·have hS:∀ r,Ev (fun k=>if (!(n1 == (headOf (T ++ t)).1) || (!(s1.toList == (headOf (T ++ t)).2.toList)))=true then some (T ++ t,n1,s1,false) else spec_l12Replay.l0 k b (c:Int) (T ++ t) n1 s1) r->Ev (fun k=>spec_l12Replay.l0 k b (a:Int) T n s) r:=by
      intro r hr
      refine Ev.step (fun k=>by simp only [spec_l12Replay.l0];rfl) ?_
      refine Ev.pos ha (Ev.bind e1 (Ev.pos rfl ?_))
      simp only [hw]
      rw [decide_eq_false (by omega)]
      refine Ev.step (fun k=>by simp only [spec_l12Replay.j1];rfl) ?_
      refine Ev.neg (by simp) (Ev.pos (by omega) ?_)
      simp only [Option.bind_some]
      exact Ev.bind (spec_HeadOf_ev (T ++ t) hsz) hr
     have hlen:(T ++ t).length≤200:=by rw [List.length_append];exact hm
     by_cases hh:(!(n1 == (headOf (T ++ t)).1) || (!(s1.toList == (headOf (T ++ t)).2.toList)))=true
     ·exact ⟨_,_,_,false,hS _ (Ev.pos hh (Ev.now _)),hlen,hsz,hI _ (Ev.pos hh (Ev.now _))⟩
     ·obtain ⟨T',n',s',ok,f1,f2,f3,f4⟩:=ih c (T ++ t) n1 s1 (by omega) h7 hlen hsz
      exact ⟨T',n',s',ok,hS _ (Ev.neg hh f1),f2,f3,hI _ (Ev.neg hh f4)⟩
    ·refine ⟨T,n,s,false,?_,h3,h5,?_⟩
     ·refine Ev.step (fun k=>by simp only [spec_l12Replay.l0];rfl) ?_
      refine Ev.pos ha (Ev.bind e1 (Ev.pos rfl ?_))
      simp only [hw]
      rw [decide_eq_true (by omega)]
      refine Ev.step (fun k=>by simp only [spec_l12Replay.j1];rfl) ?_
      exact Ev.pos trivial (Ev.now _)
     ·refine hI _ ?_
      by_cases hh:(!(n1 == (headOf (T ++ t)).1) || (!(s1.toList == (headOf (T ++ t)).2.toList)))=true
      ·exact Ev.pos hh (Ev.now _)
      ·exact Ev.neg hh (impl_many b hb hl L hL N S U (b.length - c) c (T ++ t) (Nat.le_refl _) h7 (by rw [List.length_append];omega) (by rw [List.length_append];omega) hsz)
  ·refine ⟨T,n,s,true,?_,h3,h5,?_⟩
   ·refine Ev.step (fun k=>by simp only [spec_l12Replay.l0];rfl) ?_
    exact Ev.neg ha (Ev.now _)
   ·refine Ev.step (fun k=>by simp only [impl_StoreOk.l0];rfl) ?_
    exact Ev.neg ha (Ev.bind (impl_same_ev T L (by omega)) (Ev.now _))
theorem storeOk_both (l:List ByteArray) (n:Int) (s:ByteArray) (b:List Int) (u:Int) (hb:InB b) (hl:b.length≤1048576) (hs:∀ x ∈ l,x.size≤bigB) :
  ∃ r,Ev (fun k=>spec_StoreOk.f k l n s b u) r∧Ev (fun k=>impl_StoreOk.f k l n s b u) r:=by
 have jS:Ev (fun k=>spec_StoreOk.j0 k true l n s b u) false:=by
  refine Ev.step (fun k=>by simp only [spec_StoreOk.j0];rfl) ?_
  exact Ev.pos trivial (Ev.now _)
 have jI:Ev (fun k=>impl_StoreOk.j0 k true l n s b u) false:=by
  refine Ev.step (fun k=>by simp only [impl_StoreOk.j0];rfl) ?_
  exact Ev.pos trivial (Ev.now _)
 have lS:=spec_LogOk_ev l n s hs
 have lI:=impl_LogOk_ev l n s hs
 unfold spec_StoreOk.f impl_StoreOk.f
 by_cases h1:logOk l n s=true
 ·by_cases h2:(b.length:Int) > 60000
  ·exact ⟨false,Ev.bind lS (Ev.pos h1 (Ev.pos h2 jS)),Ev.bind lI (Ev.pos h1 (Ev.pos h2 jI))⟩
  ·have hlen:l.length≤200:=by
    unfold logOk at h1
    by_cases h:(l.length:Int)≤200
    ·omega
    ·rw [if_neg h] at h1
     cases h1
   have iS:spec_l1In.f u 0 (b.length:Int)=some (decide (0≤u) && decide (u≤(b.length:Int))):=by
    unfold spec_l1In.f
    by_cases h:u ≥ 0
    ·rw [if_pos h,decide_eq_true h]
     rfl
    ·rw [if_neg h,decide_eq_false h]
     rfl
   have iI:impl_inRange.f u 0 (b.length:Int)=some (decide (0≤u) && decide (u≤(b.length:Int))):=by
    unfold impl_inRange.f
    by_cases h:u ≥ 0
    ·rw [if_pos h,decide_eq_true h]
     rfl
    ·rw [if_neg h,decide_eq_false h]
     rfl
   have fin:∀ q:Bool,∃ r,Ev (fun k=>spec_StoreOk.j0 k (!q) l n s b u) r∧Ev (fun k=>impl_StoreOk.j0 k (!q) l n s b u) r:=by
    intro q
    cases q with
    | false=>exact ⟨false,jS,jI⟩
    | true =>
     obtain ⟨T',n',s',ok,f1,f2,f3,f4⟩:=replay_both b hb hl l hlen n s u b.length 0 [] (headOf []).1 (headOf []).2 (by omega) (by omega) (by simp) (by simp)
     have fI:Ev (fun k=>impl_StoreOk.j0 k (!true) l n s b u) (if ok=true then decide (T'=l) else false):=by
      refine Ev.step (fun k=>by simp only [impl_StoreOk.j0];rfl) ?_
      exact Ev.neg (by simp) f4
     have rS:Ev (fun k=>spec_l12Replay.f k b) (T',n',s',ok):=by
      unfold spec_l12Replay.f
      exact Ev.bind log_new f1
     refine ⟨_,?_,fI⟩
     refine Ev.step (fun k=>by simp only [spec_StoreOk.j0];rfl) ?_
     refine Ev.neg (by simp) (Ev.bind rS ?_)
     cases ok with
     | true=>exact Ev.pos rfl (Ev.bind (spec_same_ev T' l (by omega)) (Ev.now _))
     | false=>exact Ev.neg (by simp) (Ev.now _)
   obtain ⟨r,r1,r2⟩:=fin (decide (0≤u) && decide (u≤(b.length:Int)))
   exact ⟨r,Ev.bind lS (Ev.pos h1 (Ev.neg h2 (Ev.bind (Ev.const iS) r1))),Ev.bind lI (Ev.pos h1 (Ev.neg h2 (Ev.bind (Ev.const iI) r2)))⟩
 ·exact ⟨false,Ev.bind lS (Ev.neg h1 jS),Ev.bind lI (Ev.neg h1 jI)⟩
def isKnown (t:List IHead) (a:Int) (s:ByteArray):Bool:=(a == (headOf []).1 && (s.toList == (headOf []).2.toList)) || hasHead t a s
theorem spec_Known_ev (t:List IHead) (a:Int) (s:ByteArray) (ht:t.length≤9223372036854775807):Ev (fun k=>spec_l14Known.f k t a s) (isKnown t a s):=by
 unfold spec_l14Known.f isKnown
 refine Ev.bind (spec_HeadOf_ev [] (by simp)) ?_
 by_cases h:(a == (headOf []).1 && (s.toList == (headOf []).2.toList))=true
 ·exact Ev.pos h (Ev.one (Ev.now _) (by rw [h];rfl))
 ·exact Ev.neg h (Ev.bind (spec_IsSigned_ev t a s ht) (Ev.one (Ev.now _) (by rw [Bool.eq_false_iff.mpr h];rfl)))
theorem impl_known_ev (t:List IHead) (a:Int) (s:ByteArray) (ht:t.length≤9223372036854775807):Ev (fun k=>impl_isKnown.f k t a s) (isKnown t a s):=by
 unfold impl_isKnown.f isKnown
 refine Ev.bind (impl_HeadOf_ev [] (by simp)) ?_
 by_cases h:(a == (headOf []).1 && (s.toList == (headOf []).2.toList))=true
 ·exact Ev.pos h (Ev.one (Ev.now _) (by rw [h];rfl))
 ·exact Ev.neg h (Ev.bind (impl_IsSigned_ev t a s ht) (Ev.one (Ev.now _) (by rw [Bool.eq_false_iff.mpr h];rfl)))
theorem isId_eq (i:Int):impl_isId.f i=some (decide (0≤i∧i≤20)):=by
 unfold impl_isId.f
 rw [impl_in_eq]
 rfl
theorem mirrorOk_told (i:Int) (l:List ByteArray) (n:Int) (s:ByteArray) (b:List Int) (u c:Int) (z:ByteArray) (t:List IHead) (hb:InB b) (hl:b.length≤1048576) (hs:∀ x ∈ l,x.size≤bigB) (ht:t.length≤9223372036854775807) :
  ∃ r,Ev (fun k=>spec_MirrorOk.f k i l n s b u c z t) r∧Ev (fun k=>impl_MirrorOk.f k i l n s b u c z t) r∧(r=true->(0≤i∧i≤20)∧headOk c z=true∧isKnown t c z=true∧isKnown t n s=true∧Ev (fun k=>impl_StoreOk.f k l n s b u) true)∧((0≤i∧i≤20)->headOk c z=true->isKnown t c z=true->isKnown t n s=true->Ev (fun k=>impl_StoreOk.f k l n s b u) true->r=true):=by
 obtain ⟨q,q1,q2⟩:=storeOk_both l n s b u hb hl hs
 have k1:=spec_Known_ev t c z ht
 have k2:=impl_known_ev t c z ht
 have k3:=spec_Known_ev t n s ht
 have k4:=impl_known_ev t n s ht
 refine ⟨decide (0≤i∧i≤20) && (headOk c z && (isKnown t c z && (isKnown t n s && q))),?_,?_,fun hr=>?_,fun g1 g2 g3 g4 g5=>?_⟩
 ·unfold spec_MirrorOk.f
  refine Ev.bind (Ev.const (spec_in_eq _ _ _)) ?_
  by_cases h:decide (0≤i∧i≤20)=true
  ·rw [h]
   refine Ev.pos rfl (Ev.bind q1 ?_)
   cases q with
   | false=>exact Ev.neg (by simp) (Ev.one (Ev.now _) (by simp))
   | true =>
    refine Ev.pos rfl (Ev.bind (Ev.const (spec_HeadOk_eq c z)) ?_)
    by_cases h2:headOk c z=true
    ·rw [h2]
     refine Ev.pos rfl (Ev.bind k1 ?_)
     by_cases h3:isKnown t c z=true
     ·rw [h3]
      exact Ev.pos rfl (Ev.bind k3 (Ev.one (Ev.now _) (by simp)))
     ·rw [Bool.eq_false_iff.mpr h3]
      exact Ev.neg (by simp) (Ev.one (Ev.now _) (by simp))
    ·rw [Bool.eq_false_iff.mpr h2]
     exact Ev.neg (by simp) (Ev.one (Ev.now _) (by simp))
  ·rw [Bool.eq_false_iff.mpr h]
   exact Ev.neg (by simp) (Ev.one (Ev.now _) (by simp))
 ·unfold impl_MirrorOk.f
  refine Ev.bind (Ev.const (isId_eq _)) ?_
  by_cases h:decide (0≤i∧i≤20)=true
  ·rw [h]
   refine Ev.pos rfl (Ev.bind (Ev.const (impl_HeadOk_eq c z)) ?_)
   by_cases h2:headOk c z=true
   ·rw [h2]
    refine Ev.pos rfl (Ev.bind k2 ?_)
    by_cases h3:isKnown t c z=true
    ·rw [h3]
     refine Ev.pos rfl (Ev.bind k4 ?_)
     by_cases h4:isKnown t n s=true
     ·rw [h4]
      exact Ev.pos rfl (Ev.bind q2 (Ev.one (Ev.now _) (by simp)))
     ·rw [Bool.eq_false_iff.mpr h4]
      exact Ev.neg (by simp) (Ev.one (Ev.now _) (by simp))
    ·rw [Bool.eq_false_iff.mpr h3]
     exact Ev.neg (by simp) (Ev.one (Ev.now _) (by simp))
   ·rw [Bool.eq_false_iff.mpr h2]
    exact Ev.neg (by simp) (Ev.one (Ev.now _) (by simp))
  ·rw [Bool.eq_false_iff.mpr h]
   exact Ev.neg (by simp) (Ev.one (Ev.now _) (by simp))
 ·simp only [Bool.and_eq_true,decide_eq_true_eq] at hr
  obtain ⟨e1,e2,e3,e4,e5⟩:=hr
  rw [e5] at q2
  exact ⟨e1,e2,e3,e4,q2⟩
 ·rw [ev_uniq q2 g5,decide_eq_true g1,g2,g3,g4]
  rfl
theorem mirrorOk_both (i:Int) (l:List ByteArray) (n:Int) (s:ByteArray) (b:List Int) (u c:Int) (z:ByteArray) (t:List IHead) (hb:InB b) (hl:b.length≤1048576) (hs:∀ x ∈ l,x.size≤bigB) (ht:t.length≤9223372036854775807) :
  ∃ r,Ev (fun k=>spec_MirrorOk.f k i l n s b u c z t) r∧Ev (fun k=>impl_MirrorOk.f k i l n s b u c z t) r:=by
 obtain ⟨r,h1,h2,_⟩:=mirrorOk_told i l n s b u c z t hb hl hs ht
 exact ⟨r,h1,h2⟩
theorem impl_copyMirror_eq (i:Int) (l:List ByteArray) (n:Int) (s:ByteArray) (b:List Int) (u c:Int) (z:ByteArray) (hl:l.length < 8796093022208) (hb:b.length < 140737488355328):impl_copyMirror.f i l n s b u c z=some (i,l,n,s,b,u,c,z):=by
 unfold impl_copyMirror.f
 rw [impl_copyStore_eq l n s b u hl hb]
 rfl
theorem spec_l14Copy_eq (i:Int) (l:List ByteArray) (n:Int) (s:ByteArray) (b:List Int) (u c:Int) (z:ByteArray) (hl:l.length < 8796093022208) (hb:b.length < 140737488355328):spec_l14Copy.f i l n s b u c z=some (i,l,n,s,b,u,c,z):=by
 unfold spec_l14Copy.f
 rw [spec_l12Copy_eq l n s b u hl hb]
 rfl
theorem l12Put_val (n:Nat) (s:ByteArray) (t:List ByteArray) (hn:n≤200) (hs:s.size≤1000) (ht:t.length≤1000000) (htt:total t≤100000000) (hx:∀ x ∈ t,x.size≤1000000000):Ev (fun q=>spec_l12Put.f q (n:Int) s t) (commitB n s t):=by
 have ht0:=total_nonneg t
 have a2:=(putNum_val [] n (by omega) (by simp)).1
 have h5:=num_five (show n≤1000000000 by omega)
 have hs5:=num_five (show s.size≤1000000000 by omega)
 have b2:=(putText_val ([] ++ num n) s (by omega) (by simp;omega)).1
 have c2:=(putTexts_val ([] ++ num n ++ textB s) t (by rw [List.length_append,textB_length];simp;omega) (by omega) hx).1
 have eb:[] ++ num n ++ textB s ++ textsB t=bodyB n s t:=by
  unfold bodyB
  simp
 rw [eb] at c2
 have hm:=manyB_length t hx
 have ht5:=num_five (show t.length≤1000000000 by omega)
 have hbl:(bodyB n s t).length≤1000000000:=by
  unfold bodyB textsB
  rw [List.length_append,List.length_append,List.length_append,textB_length]
  omega
 have h4:((sha (bodyB n s t)).extract 0 4).size=4:=by
  rw [ByteArray.size_extract,sha_size]
  rfl
 have h32:(sha (bodyB n s t)).size=32:=sha_size _
 have d2:=(putNum_val [] (bodyB n s t).length hbl (by simp)).1
 have hd5:=num_five hbl
 rw [List.nil_append] at d2
 unfold spec_l12Put.f commitB sumB
 refine Ev.bind a2 (Ev.bind b2 (Ev.bind c2 (Ev.bind d2 (Ev.pos (by omega) (Ev.bind (Ev.now _) (Ev.bind (spec_Digest_ev (bodyB n s t) (by omega) (bodyB_inB n s t)) ?_))))))
 rw [← List.append_assoc]
 exact Ev.pos (by omega) (Ev.pos (by omega) (Ev.pos (by rw [List.length_append,h4];omega) (Ev.now _)))
def isHead (l:List ByteArray) (a:Int) (z:ByteArray):Bool:=a == (headOf l).1 && (z.toList == (headOf l).2.toList)
def extOf (t:List IHead) (l:List ByteArray) (n:Int) (s:ByteArray) (a:Int) (z:ByteArray) (x:List ByteArray):List ByteArray × Int × ByteArray × Int :=
 if (headOk a z && (a == ((l.length+x.length:Nat):Int)))=true then
  (if hasHead t a z=true then (if x.length=0 then (l,n,s,3) else (if isHead (l ++ x) a z=true then (l ++ x,a,z,0) else (l,n,s,4))) else (l,n,s,2))
 else (l,n,s,1)
def extendOf (t:List IHead) (l:List ByteArray) (n:Int) (s:ByteArray) (a:Int) (z:ByteArray) (x:List ByteArray):List ByteArray × Int × ByteArray × Int :=
 if logOk l n s=true then extOf t l n s a z x else (l,n,s,1)
theorem ne_head (a b:Int) (u v:List UInt8):(!(a == b) || !(u == v)) = !(a == b && (u == v)):=by simp
theorem head_sym (a b:Int) (u v:List UInt8):(a == b && (u == v))=(b == a && (v == u)):=by rw [Bool.beq_comm (a:=a),Bool.beq_comm (a:=u)]
theorem extend_j0S (t:List IHead) (l:List ByteArray) (n:Int) (s:ByteArray) (a:Int) (z:ByteArray) (x:List ByteArray) (ht:t.length≤9223372036854775807) (hs:∀ y ∈ l ++ x,y.size≤bigB) (hf:Bool) :
  Ev (fun k=>spec_Extend.j0 k t x (l ++ x) hf a z l n s) (if hf=true then (l,n,s,1) else (if hasHead t a z=true then (if x.length=0 then (l,n,s,3) else (if isHead (l ++ x) a z=true then (l ++ x,a,z,0) else (l,n,s,4))) else (l,n,s,2))):=by
 refine Ev.step (fun k=>by simp only [spec_Extend.j0];rfl) ?_
 cases hf with
 | true=>exact Ev.pos rfl (Ev.now _)
 | false =>
  refine Ev.neg (by simp) (Ev.bind (spec_IsSigned_ev t a z ht) ?_)
  rw [if_neg (by simp)]
  by_cases h1:hasHead t a z=true
  ·rw [if_pos h1]
   refine Ev.pos h1 ?_
   by_cases h2:x.length=0
   ·rw [if_pos h2]
    exact Ev.pos (by omega) (Ev.now _)
   ·rw [if_neg h2]
    refine Ev.neg (by omega) (Ev.bind (spec_HeadOf_ev (l ++ x) hs) ?_)
    rw [ne_head]
    by_cases h3:isHead (l ++ x) a z=true
    ·rw [if_pos h3]
     exact Ev.neg (by unfold isHead at h3;rw [h3];simp) (Ev.now _)
    ·rw [if_neg h3]
     exact Ev.pos (by unfold isHead at h3;rw [Bool.eq_false_iff.mpr h3];rfl) (Ev.now _)
  ·rw [if_neg h1]
   exact Ev.neg h1 (Ev.now _)
theorem extend_j0I (t:List IHead) (l:List ByteArray) (n:Int) (s:ByteArray) (a:Int) (z:ByteArray) (x:List ByteArray) (ht:t.length≤9223372036854775807) (hs:∀ y ∈ l ++ x,y.size≤bigB) (hl:l.length+x.length≤1000000000) (hf:Bool) :
  Ev (fun k=>impl_extend.j0 k t x hf l n s a z) (if hf=true then (l,n,s,1) else (if hasHead t a z=true then (if x.length=0 then (l,n,s,3) else (if isHead (l ++ x) a z=true then (l ++ x,a,z,0) else (l,n,s,4))) else (l,n,s,2))):=by
 have hc:=impl_copyLog_eq l n s (by omega)
 refine Ev.step (fun k=>by simp only [impl_extend.j0];rfl) ?_
 cases hf with
 | true=>exact Ev.pos rfl (Ev.bind (Ev.const hc) (Ev.now _))
 | false =>
  refine Ev.neg (by simp) (Ev.bind (impl_IsSigned_ev t a z ht) ?_)
  rw [if_neg (by simp)]
  by_cases h1:hasHead t a z=true
  ·rw [if_pos h1]
   refine Ev.pos h1 ?_
   by_cases h2:x.length=0
   ·rw [if_pos h2]
    exact Ev.pos (by omega) (Ev.bind (Ev.const hc) (Ev.now _))
   ·rw [if_neg h2]
    refine Ev.neg (by omega) (Ev.bind (concat_ev l x hl (by omega)) (Ev.bind (impl_HeadOf_ev (l ++ x) hs) ?_))
    rw [ne_head,head_sym]
    by_cases h3:isHead (l ++ x) a z=true
    ·rw [if_pos h3]
     exact Ev.neg (by unfold isHead at h3;rw [h3];simp) (Ev.now _)
    ·rw [if_neg h3]
     exact Ev.pos (by unfold isHead at h3;rw [Bool.eq_false_iff.mpr h3];rfl) (Ev.bind (Ev.const hc) (Ev.now _))
  ·rw [if_neg h1]
   exact Ev.neg h1 (Ev.bind (Ev.const hc) (Ev.now _))
theorem ext_form (t:List IHead) (l:List ByteArray) (n:Int) (s:ByteArray) (a:Int) (z:ByteArray) (x:List ByteArray) :
  extOf t l n s a z x=(if headOk a z=true then (if (a != ((l.length+x.length:Nat):Int))=true then (l,n,s,1) else (if hasHead t a z=true then (if x.length=0 then (l,n,s,3) else (if isHead (l ++ x) a z=true then (l ++ x,a,z,0) else (l,n,s,4))) else (l,n,s,2))) else (l,n,s,1)):=by
 unfold extOf
 cases headOk a z <;> by_cases h:a=((l.length+x.length:Nat):Int) <;> simp [h]
theorem spec_Extend_ev (t:List IHead) (l:List ByteArray) (n:Int) (s:ByteArray) (a:Int) (z:ByteArray) (x:List ByteArray) (ht:t.length≤9223372036854775807) (hs:∀ y ∈ l ++ x,y.size≤bigB) (hl:l.length+x.length≤1000000000) :
  Ev (fun k=>spec_Extend.f k l n s t a z x) (extendOf t l n s a z x):=by
 have hs0:∀ y ∈ l,y.size≤bigB:=fun y hy=>hs y (List.mem_append_left _ hy)
 unfold spec_Extend.f extendOf
 rw [spec_l11Copy_eq l n s (by omega)]
 simp only [Option.bind_some,List.length_nil,List.nil_append,List.length_append,Nat.zero_add]
 refine Ev.pos (by omega) (Ev.pos (by omega) (Ev.bind (spec_LogOk_ev l n s hs0) ?_))
 by_cases h0:logOk l n s=true
 ·rw [if_pos h0,ext_form]
  refine Ev.pos h0 (Ev.bind (Ev.const (spec_HeadOk_eq a z)) ?_)
  by_cases h1:headOk a z=true
  ·rw [if_pos h1]
   exact Ev.pos h1 (extend_j0S t l n s a z x ht hs _)
  ·rw [if_neg h1]
   exact Ev.neg h1 (Ev.one (extend_j0S t l n s a z x ht hs true) (by rw [if_pos rfl]))
 ·rw [if_neg h0]
  exact Ev.neg h0 (Ev.one (extend_j0S t l n s a z x ht hs true) (by rw [if_pos rfl]))
theorem impl_extend_ev (t:List IHead) (l:List ByteArray) (n:Int) (s:ByteArray) (a:Int) (z:ByteArray) (x:List ByteArray) (ht:t.length≤9223372036854775807) (hs:∀ y ∈ l ++ x,y.size≤bigB) (hl:l.length+x.length≤1000000000) :
  Ev (fun k=>impl_extend.f k l n s t a z x) (extOf t l n s a z x):=by
 unfold impl_extend.f
 rw [ext_form]
 refine Ev.bind (Ev.const (impl_HeadOk_eq a z)) ?_
 by_cases h1:headOk a z=true
 ·rw [if_pos h1,w64 (x:=(l.length:Int) + (x.length:Int)) (by omega) (by omega)]
  exact Ev.pos h1 (extend_j0I t l n s a z x ht hs hl _)
 ·rw [if_neg h1]
  exact Ev.neg h1 (Ev.one (extend_j0I t l n s a z x ht hs hl true) (by rw [if_pos rfl]))
theorem spec_LogNew_ev:Ev (fun k=>spec_LogNew.f k) (([]:List ByteArray),(headOf []).1,(headOf []).2):=by
 unfold spec_LogNew.f
 exact Ev.bind (spec_HeadOf_ev [] (by simp)) (Ev.now _)
theorem impl_LogNew_ev:Ev (fun k=>impl_LogNew.f k) (([]:List ByteArray),(headOf []).1,(headOf []).2):=by
 unfold impl_LogNew.f
 exact Ev.bind (impl_HeadOf_ev [] (by simp)) (Ev.now _)
theorem spec_StoreNew_ev:Ev (fun k=>spec_StoreNew.f k) (([]:List ByteArray),(headOf []).1,(headOf []).2,([]:List Int),(0:Int)):=by
 unfold spec_StoreNew.f
 exact Ev.bind spec_LogNew_ev (Ev.now _)
theorem impl_StoreNew_ev:Ev (fun k=>impl_StoreNew.f k) (([]:List ByteArray),(headOf []).1,(headOf []).2,([]:List Int),(0:Int)):=by
 unfold impl_StoreNew.f
 exact Ev.bind impl_LogNew_ev (Ev.now _)
def Good (t:List IHead) (l:List ByteArray) (N:Nat) (s:ByteArray) (x:List ByteArray):Prop:=headOk (N:Int) s=true∧hasHead t (N:Int) s=true∧isHead (l ++ x) (N:Int) s=true∧N=l.length+x.length
inductive Opened (t:List IHead):List ByteArray->List Int->List ByteArray->List Int->Nat->Prop
 | stop {l:List ByteArray} {b:List Int} (h:∀ N s x r,b=commitB N s x ++ r->headOk (N:Int) s=true->1≤x.length->x.length≤200->(∀ y ∈ x,y.size≤1000000000)->¬ Good t l N s x):Opened t l b l [] 0
 | step {l:List ByteArray} {r:List Int} {L:List ByteArray} {m:List Int} {c N:Nat} {s:ByteArray} {x:List ByteArray} (hk:headOk (N:Int) s=true) (h1:1≤x.length) (h2:x.length≤200) (hs:∀ y ∈ x,y.size≤1000000000) (hg:Good t l N s x) (k:Opened t (l ++ x) r L m c):Opened t l (commitB N s x ++ r) L (commitB N s x ++ m) (c+1)
theorem ext_good {t:List IHead} {l:List ByteArray} {n:Int} {z:ByteArray} {N:Nat} {s:ByteArray} {x:List ByteArray} (h1:1≤x.length) (hg:Good t l N s x):extOf t l n z (N:Int) s x=(l ++ x,(N:Int),s,0):=by
 obtain ⟨g1,g2,g3,g4⟩:=hg
 unfold extOf
 have e:((N:Int) == ((l.length+x.length:Nat):Int))=true:=by rw [g4];exact beq_self_eq_true _
 rw [if_pos (by rw [g1,e];rfl),if_pos g2,if_neg (by omega),if_pos g3]
theorem ext_bad {t:List IHead} {l:List ByteArray} (n:Int) (z:ByteArray) {N:Nat} {s:ByteArray} {x:List ByteArray} (hg:¬ Good t l N s x):∃ c,extOf t l n z (N:Int) s x=(l,n,z,c)∧c ≠ 0:=by
 unfold extOf
 by_cases h0:(headOk (N:Int) s && ((N:Int) == ((l.length+x.length:Nat):Int)))=true
 ·rw [if_pos h0]
  by_cases h1:hasHead t (N:Int) s=true
  ·rw [if_pos h1]
   by_cases h2:x.length=0
   ·rw [if_pos h2]
    exact ⟨3,rfl,by decide⟩
   ·rw [if_neg h2]
    by_cases h3:isHead (l ++ x) (N:Int) s=true
    ·rw [Bool.and_eq_true] at h0
     exact absurd ⟨h0.1,h1,h3,by have:=eq_of_beq h0.2;omega⟩ hg
    ·rw [if_neg h3]
     exact ⟨4,rfl,by decide⟩
  ·rw [if_neg h1]
   exact ⟨2,rfl,by decide⟩
 ·rw [if_neg h0]
  exact ⟨1,rfl,by decide⟩
theorem headOk_is {n:Int} {s:ByteArray} (h:headOk n s=true):s.size=32∧0≤n∧n≤200:=by
 unfold headOk at h
 by_cases hc:0≤n∧n≤200
 ·rw [if_pos hc] at h
  have:=eq_of_beq h
  omega
 ·rw [if_neg hc] at h
  cases h
theorem logOk_head {l:List ByteArray} (h:l.length≤200):logOk l (headOf l).1 (headOf l).2=true:=by
 unfold logOk
 rw [if_pos (by omega)]
 simp
theorem isHead_is {l:List ByteArray} {a:Int} {z:ByteArray} (h:isHead l a z=true):a=(headOf l).1∧z=(headOf l).2:=by
 unfold isHead at h
 rw [Bool.and_eq_true] at h
 exact ⟨eq_of_beq h.1,bytes_ext (eq_of_beq h.2)⟩
theorem commit_pos (N:Nat) (s:ByteArray) (x:List ByteArray):0 < (commitB N s x).length:=by
 have:=commitB_length N s x
 omega
theorem take_more {b:List Int} {a:Nat} {c r:List Int} (ha:a≤b.length) (h:b.drop a=c ++ r):b.take a ++ c=b.take (a+c.length)∧r=b.drop (a+c.length):=by
 have e:b=b.take a ++ (c ++ r):=by rw [← h,List.take_append_drop]
 have hl:(b.take a).length=a:=by rw [List.length_take];omega
 constructor
 ·have:b.take (a+c.length)=(b.take a ++ (c ++ r)).take (a+c.length):=by rw [← e]
  rw [this,List.take_append,hl,List.take_take,Nat.min_eq_right (by omega),show a+c.length - a=c.length by omega]
  simp
 ·have:b.drop (a+c.length)=(b.drop a).drop c.length:=by rw [List.drop_drop]
  rw [this,h]
  simp
theorem opened_some (t:List IHead):∀ (d:Nat) (l:List ByteArray) (b:List Int),b.length≤d->∃ L m c,Opened t l b L m c:=by
 intro d
 induction d with
 | zero =>
  intro l b hb
  refine ⟨l,[],0,.stop (fun N s x r e _ _ _ _ _=>?_)⟩
  have:=commit_pos N s x
  have h2:b.length=(commitB N s x ++ r).length:=by rw [← e]
  rw [List.length_append] at h2
  omega
 | succ d ih =>
  intro l b hb
  by_cases h:∃ N s x r,b=commitB N s x ++ r∧headOk (N:Int) s=true∧1≤x.length∧x.length≤200∧(∀ y ∈ x,y.size≤1000000000)∧Good t l N s x
  ·obtain ⟨N,s,x,r,rfl,h1,h2,h3,h4,h5⟩:=h
   have:=commit_pos N s x
   rw [List.length_append] at hb
   obtain ⟨L,m,c,o⟩:=ih (l ++ x) r (by omega)
   exact ⟨L,_,_,.step h1 h2 h3 h4 h5 o⟩
  ·exact ⟨l,[],0,.stop (fun N s x r e h1 h2 h3 h4 h5=>h ⟨N,s,x,r,e,h1,h2,h3,h4,h5⟩)⟩
def firstB (b:List Int):List Int:=b.take 60000
theorem opened_ev (t:List IHead) (ht:t.length≤9223372036854775807) (b:List Int) (hb:InB b) (hl:b.length≤60000) {l:List ByteArray} {bs:List Int} {L:List ByteArray} {m:List Int} {c:Nat} (o:Opened t l bs L m c) :
  ∀ (a:Nat) (cnt:Int),bs=b.drop a->a≤b.length->l.length≤200->(∀ x ∈ l,x.size≤bigB)->0≤cnt->cnt+((b.length - a:Nat):Int)≤60000 →
  Ev (fun k=>spec_OpenStore.l0 k t b cnt (a:Int) l (headOf l).1 (headOf l).2 (b.take a) 0) (L,(headOf L).1,(headOf L).2,b.take a ++ m,0,cnt+(c:Int)) ∧
  Ev (fun k=>impl_OpenStore.l0 k t b 0 cnt (a:Int) l (headOf l).1 (headOf l).2 (b.take a)) (L,(headOf L).1,(headOf L).2,b.take a ++ m,cnt+(c:Int)) ∧
  L.length≤200∧(∀ x ∈ L,x.size≤bigB)∧m.length+a≤b.length∧c≤b.length - a:=by
 induction o with
 | @stop l bs h =>
  intro a cnt e ha h1 h2 h3 h4
  refine ⟨?_,?_,h1,h2,by simp;omega,by omega⟩
  all_goals rw [List.append_nil,show cnt+((0:Nat):Int)=cnt by omega]
  ·refine Ev.step (fun k=>by simp only [spec_OpenStore.l0];rfl) ?_
   by_cases hlt:(a:Int) < (b.length:Int)
   ·obtain ⟨n,s,x,nx,ok,e1,e2,hx⟩:=getCommit_both b hb (by omega) (a:Int) (by omega) (by omega)
    obtain ⟨n',s',x',nx',ok',e3,_,c1,c2⟩:=getCommitI b hb (by omega) (a:Int) (by omega) (by omega)
    have hu:=ev_uniq e3 e2
    simp only [Prod.mk.injEq] at hu
    obtain ⟨rfl,rfl,rfl,rfl,rfl⟩:=hu
    refine Ev.pos hlt (Ev.bind e1 ?_)
    cases hok:ok' with
    | false=>exact Ev.neg (by simp) (Ev.now _)
    | true =>
     obtain ⟨a',N,g1,rfl,g2,g3,g4,g5,g6⟩:=c1 hok
     have ea:a'=a:=by omega
     subst ea
     have hsm:=commit_small (by omega) g4
     have hbad:=h N s' x' _ (e.trans g4) g2 g3 hx hsm
     obtain ⟨q,hq,hq0⟩:=ext_bad (headOf l).1 (headOf l).2 hbad
     have htx:∀ y ∈ x',y.size≤bigB:=fun y hy=>by
      have w1:=commitB_length N s' x'
      have w2:=bodyB_ge N s' x'
      have w3:=total_mem hy
      unfold bigB
      omega
     refine Ev.pos rfl ?_
     have hE:=spec_Extend_ev t l (headOf l).1 (headOf l).2 (N:Int) s' x' ht (sizes_app h2 htx) (by omega)
     unfold extendOf at hE
     rw [if_pos (logOk_head h1),hq] at hE
     have hC:Ev (fun k=>spec_l12Commit.f k l (headOf l).1 (headOf l).2 (b.take a') 0 t (N:Int) s' x') (l,(headOf l).1,(headOf l).2,b.take a',0,q):=by
      unfold spec_l12Commit.f
      rw [spec_l12Copy_eq l _ _ _ _ (by omega) (by rw [List.length_take];omega)]
      simp only [Option.bind_some]
      exact Ev.bind hE (Ev.neg hq0 (Ev.now _))
     exact Ev.bind hC (Ev.neg hq0 (Ev.now _))
   ·exact Ev.neg hlt (Ev.now _)
  ·refine Ev.step (fun k=>by simp only [impl_OpenStore.l0];rfl) ?_
   by_cases hlt:(a:Int) < (b.length:Int)
   ·obtain ⟨n',s',x',nx',ok',e3,hx,c1,c2⟩:=getCommitI b hb (by omega) (a:Int) (by omega) (by omega)
    refine Ev.pos hlt (Ev.bind e3 ?_)
    cases hok:ok' with
    | false=>exact Ev.neg (by simp) (Ev.now _)
    | true =>
     obtain ⟨a',N,g1,rfl,g2,g3,g4,g5,g6⟩:=c1 hok
     have ea:a'=a:=by omega
     subst ea
     have hsm:=commit_small (by omega) g4
     have hbad:=h N s' x' _ (e.trans g4) g2 g3 hx hsm
     obtain ⟨q,hq,hq0⟩:=ext_bad (headOf l).1 (headOf l).2 hbad
     have w1:=commitB_length N s' x'
     have w2:=bodyB_ge N s' x'
     have htx:∀ y ∈ x',y.size≤bigB:=fun y hy=>by
      have w3:=total_mem hy
      unfold bigB
      omega
     refine Ev.pos rfl ?_
     have hP:=PutCommit_val (N:Int) s' x' (by omega) (by omega) hsm
     rw [if_pos ⟨g2,g3,hx⟩,Int.toNat_natCast] at hP
     have hE:=impl_extend_ev t l (headOf l).1 (headOf l).2 (N:Int) s' x' ht (sizes_app h2 htx) (by omega)
     rw [hq] at hE
     have hlt2:(b.take a').length=a':=by rw [List.length_take];omega
     have hC:Ev (fun k=>impl_Store_commit.f k l (headOf l).1 (headOf l).2 (b.take a') 0 t (N:Int) s' x') (l,(headOf l).1,(headOf l).2,b.take a',q):=by
      unfold impl_Store_commit.f
      refine Ev.bind hP (Ev.neg ?_ (Ev.bind hE (Ev.neg hq0 (Ev.now _))))
      rw [hlt2,w64 (by omega) (by omega)]
      omega
     exact Ev.bind hC (Ev.neg hq0 (Ev.now _))
   ·exact Ev.neg hlt (Ev.now _)
 | @step l r L m c N s x hk hx1 hx2 hsm hg o ih =>
  intro a cnt e ha h1 h2 h3 h4
  obtain ⟨e1,e2⟩:=take_more ha e.symm
  have hlen:=commit_pos N s x
  have hdl:(b.drop a).length=b.length - a:=List.length_drop
  have hcl:(commitB N s x).length≤b.length - a:=by
   rw [← hdl,← e,List.length_append]
   omega
  have w1:=commitB_length N s x
  have w2:=bodyB_ge N s x
  have htx:∀ y ∈ x,y.size≤bigB:=fun y hy=>by
   have w3:=total_mem hy
   unfold bigB
   omega
  obtain ⟨hh1,hh2⟩:=isHead_is hg.2.2.1
  have hfew:(l ++ x).length≤200:=by
   have:=hg.2.2.2
   have hk':=hk
   unfold headOk at hk'
   rw [List.length_append]
   by_cases hc:(0:Int)≤(N:Int)∧(N:Int)≤200
   ·omega
   ·rw [if_neg hc] at hk'
    cases hk'
  obtain ⟨i1,i2,i3,i4,i5,i6⟩:=ih (a+(commitB N s x).length) (cnt+1) e2 (by omega) hfew (sizes_app h2 htx) (by omega) (by omega)
  rw [← hh1,← hh2,← e1,show cnt+1+(c:Int)=cnt+((c+1:Nat):Int) by omega,List.append_assoc] at i1 i2
  have h32:=headOk_is hk
  have hlt:(a:Int) < (b.length:Int):=by omega
  have hlt2:(b.take a).length=a:=by rw [List.length_take];omega
  have hread:∃ nx,nx=((a+(commitB N s x).length:Nat):Int)∧Ev (fun q=>spec_GetCommit.f q b (a:Int)) ((N:Int),s,x,nx,true)∧Ev (fun q=>impl_GetCommit.f q b (a:Int)) ((N:Int),s,x,nx,true):=by
   obtain ⟨n,s',x',nx,ok,f1,f2,hx⟩:=getCommit_both b hb (by omega) (a:Int) (by omega) (by omega)
   obtain ⟨n',s'',x'',nx',ok',f3,_,c1,c2⟩:=getCommitI b hb (by omega) (a:Int) (by omega) (by omega)
   have hu:=ev_uniq f3 f2
   simp only [Prod.mk.injEq] at hu
   obtain ⟨rfl,rfl,rfl,rfl,rfl⟩:=hu
   cases hok:ok' with
   | false=>exact absurd ((c2 hok).2.2.2.2 a N s x r rfl e.symm hk hx1 hx2 hsm) (by simp)
   | true =>
    obtain ⟨a',N',g1,rfl,g2,g3,g4,g5,g6⟩:=c1 hok
    have ea:a'=a:=by omega
    subst ea
    obtain ⟨rfl,rfl,rfl,_⟩:=commitB_inj (e.trans g4)
    rw [hok] at f1 f2
    exact ⟨nx',g5,f1,f2⟩
  obtain ⟨nx,hnx,f1,f2⟩:=hread
  subst hnx
  have w64c:wrap64 (cnt+1)=cnt+1:=w64 (by omega) (by omega)
  refine ⟨?_,?_,i3,i4,by rw [List.length_append];omega,by omega⟩
  ·have hE:=spec_Extend_ev t l (headOf l).1 (headOf l).2 (N:Int) s x ht (sizes_app h2 htx) (by omega)
   unfold extendOf at hE
   rw [if_pos (logOk_head h1),ext_good hx1 hg] at hE
   have hP:=l12Put_val N s x (by have:=hg.2.2.2;rw [List.length_append] at hfew;omega) (by omega) (by omega) (by omega) hsm
   have hC:Ev (fun k=>spec_l12Commit.f k l (headOf l).1 (headOf l).2 (b.take a) 0 t (N:Int) s x) (l ++ x,(N:Int),s,b.take a ++ commitB N s x,0,0):=by
    unfold spec_l12Commit.f
    rw [spec_l12Copy_eq l _ _ _ _ (by omega) (by rw [List.length_take];omega)]
    simp only [Option.bind_some]
    exact Ev.bind hE (Ev.pos rfl (Ev.bind hP (Ev.pos (by rw [hlt2];omega) (Ev.now _))))
   refine Ev.step (fun k=>by simp only [spec_OpenStore.l0];rfl) ?_
   refine Ev.pos hlt (Ev.bind f1 (Ev.pos rfl (Ev.bind hC (Ev.pos rfl ?_))))
   rw [w64c]
   exact i1
  ·have hP:=PutCommit_val (N:Int) s x (by omega) (by omega) hsm
   rw [if_pos ⟨hk,hx1,hx2⟩,Int.toNat_natCast] at hP
   have hE:=impl_extend_ev t l (headOf l).1 (headOf l).2 (N:Int) s x ht (sizes_app h2 htx) (by omega)
   rw [ext_good hx1 hg] at hE
   have hC:Ev (fun k=>impl_Store_commit.f k l (headOf l).1 (headOf l).2 (b.take a) 0 t (N:Int) s x) (l ++ x,(N:Int),s,b.take a ++ commitB N s x,0):=by
    unfold impl_Store_commit.f
    refine Ev.bind hP (Ev.neg ?_ (Ev.bind hE (Ev.pos rfl (Ev.pos (by rw [hlt2];omega) (Ev.now _)))))
    rw [hlt2,w64 (by omega) (by omega)]
    omega
   refine Ev.step (fun k=>by simp only [impl_OpenStore.l0];rfl) ?_
   refine Ev.pos hlt (Ev.bind f2 (Ev.pos rfl (Ev.bind hC (Ev.pos rfl ?_))))
   rw [w64c]
   exact i2
theorem openStore_ev (t:List IHead) (ht:t.length≤9223372036854775807) (b:List Int) (hb:InB b) {L:List ByteArray} {m:List Int} {c:Nat} (o:Opened t [] (firstB b) L m c) :
  Ev (fun k=>spec_OpenStore.f k t b) (L,(headOf L).1,(headOf L).2,m,(m.length:Int),(c:Int))∧Ev (fun k=>impl_OpenStore.f k t b) (L,(headOf L).1,(headOf L).2,m,(m.length:Int),(c:Int))∧L.length≤200∧(∀ x ∈ L,x.size≤bigB)∧m.length≤60000:=by
 have hf:(firstB b).length≤60000:=by
  unfold firstB
  rw [List.length_take]
  omega
 have hb2:InB (firstB b):=fun x hx=>hb x (List.mem_of_mem_take hx)
 obtain ⟨e1,e2,e3,e4,e5,e6⟩:=opened_ev t ht (firstB b) hb2 hf o 0 0 rfl (by omega) (by simp) (by simp) (by omega) (by omega)
 simp only [List.take_zero,List.nil_append,Int.zero_add] at e1 e2
 have s1:(if (b.length:Int) > 60000 then b.take (60000:Int).toNat else b)=firstB b:=by
  unfold firstB
  by_cases h:(b.length:Int) > 60000
  ·rw [if_pos h]
   rfl
  ·rw [if_neg h,List.take_of_length_le (by omega)]
 have s2:b.take (mn (b.length:Int) 60000).toNat=firstB b:=by
  unfold firstB mn
  by_cases h:(60000:Int) < (b.length:Int)
  ·rw [if_pos h]
   rfl
  ·rw [if_neg h,Int.toNat_natCast,List.take_length,List.take_of_length_le (by omega)]
 refine ⟨?_,?_,e3,e4,by omega⟩
 ·unfold spec_OpenStore.f
  rw [s1]
  exact Ev.bind spec_StoreNew_ev (Ev.bind e1 (Ev.now _))
 ·unfold impl_OpenStore.f
  rw [s2]
  exact Ev.bind impl_StoreNew_ev (Ev.bind e2 (Ev.now _))
theorem fallOf_inB {b:List Int} (h:InB b) (u keep:Int):InB (fallOf b u keep):=fun x hx=>h x (List.mem_of_mem_take hx)
theorem crash_told (i:Int) (l:List ByteArray) (n:Int) (s:ByteArray) (b:List Int) (u c:Int) (z:ByteArray) (t:List IHead) (keep:Int) (hb:InB b) (hl:b.length≤1048576) (hk:l.length≤1048576) (hs:∀ x ∈ l,x.size≤bigB) (ht:t.length≤9223372036854775807)
  {L:List ByteArray} {m:List Int} {q:Nat} (o:Opened t [] (firstB (fallOf b u keep)) L m q) {r:Bool} (h1:Ev (fun k=>spec_MirrorOk.f k i l n s b u c z t) r) (h2:Ev (fun k=>impl_MirrorOk.f k i l n s b u c z t) r) :
  Ev (fun k=>spec_CrashMirror.f k i l n s b u c z t keep) (if r=true then (i,L,(headOf L).1,(headOf L).2,m,(m.length:Int),(headOf L).1,(headOf L).2,(q:Int)) else (i,l,n,s,b,u,c,z, -1))∧Ev (fun k=>impl_CrashMirror.f k i l n s b u c z t keep) (if r=true then (i,L,(headOf L).1,(headOf L).2,m,(m.length:Int),(headOf L).1,(headOf L).2,(q:Int)) else (i,l,n,s,b,u,c,z, -1)):=by
 have k1:=impl_copyMirror_eq i l n s b u c z (by omega) (by omega)
 have k2:=spec_l14Copy_eq i l n s b u c z (by omega) (by omega)
 have f1:=spec_FallStore_ev l n s b u keep hl
 have f2:=impl_FallStore_eq l n s b u keep hl
 obtain ⟨o1,o2,_⟩:=openStore_ev t ht (fallOf b u keep) (fallOf_inB hb u keep) o
 unfold spec_CrashMirror.f impl_CrashMirror.f
 cases r with
 | true =>
  have hC:Ev (fun k=>spec_l14Crash.f k i l n s b u c z t keep) (i,L,(headOf L).1,(headOf L).2,m,(m.length:Int),(headOf L).1,(headOf L).2,(q:Int)):=by
   unfold spec_l14Crash.f
   exact Ev.bind f1 (Ev.bind o1 (Ev.now _))
  exact ⟨Ev.bind h1 (Ev.pos rfl (Ev.bind hC (Ev.now _))),Ev.bind (Ev.const k1) (Ev.bind h2 (Ev.pos rfl (Ev.bind (Ev.const f2) (Ev.bind o2 (Ev.now _)))))⟩
 | false=>exact ⟨Ev.bind h1 (Ev.neg (by simp) (Ev.bind (Ev.const k2) (Ev.now _))),Ev.bind (Ev.const k1) (Ev.bind h2 (Ev.neg (by simp) (Ev.now _)))⟩
theorem crash_both (i:Int) (l:List ByteArray) (n:Int) (s:ByteArray) (b:List Int) (u c:Int) (z:ByteArray) (t:List IHead) (keep:Int) (hb:InB b) (hl:b.length≤1048576) (hk:l.length≤1048576) (hs:∀ x ∈ l,x.size≤bigB) (ht:t.length≤9223372036854775807) :
  ∃ (L:List ByteArray) (N:Int) (S:ByteArray) (m:List Int) (v C:Int) (Z:ByteArray) (q:Int),Ev (fun k=>spec_CrashMirror.f k i l n s b u c z t keep) (i,L,N,S,m,v,C,Z,q)∧Ev (fun k=>impl_CrashMirror.f k i l n s b u c z t keep) (i,L,N,S,m,v,C,Z,q)∧L.length≤1048576∧m.length≤1048576:=by
 obtain ⟨r,h1,h2⟩:=mirrorOk_both i l n s b u c z t hb hl hs ht
 obtain ⟨L,m,q,o⟩:=opened_some t (firstB (fallOf b u keep)).length [] (firstB (fallOf b u keep)) (Nat.le_refl _)
 obtain ⟨e1,e2⟩:=crash_told i l n s b u c z t keep hb hl hk hs ht o h1 h2
 obtain ⟨_,_,b1,b2,b3⟩:=openStore_ev t ht (fallOf b u keep) (fallOf_inB hb u keep) o
 cases r with
 | true=>exact ⟨_,_,_,_,_,_,_,_,e1,e2,by omega,by omega⟩
 | false=>exact ⟨_,_,_,_,_,_,_,_,e1,e2,hk,hl⟩
end Go.Proofs.YtnlndmoecljicaaGreat.Q
end
section
namespace Go.Proofs.YtnlndmoecljicaaGreat.Q
open Go.RowKit Go.Proofs.YtnlndmoecljicaaGreat.B Go.Proofs.YtnlndmoecljicaaGreatW.PrintWords
theorem pure_FnExactCrashMirror:laws_FnExactCrashMirror.Pure:=by
 intro x T keep g gT _
 refine Ev.rounds (g:=fun k=>laws_FnExactCrashMirror.f k x.f0 x.f1.f0.f0 x.f1.f0.f1.f0 x.f1.f0.f1.f1 x.f1.f1 x.f1.f2 x.f2.f0 x.f2.f1 T keep) ?_
 obtain ⟨_,⟨⟨⟨g1,g2⟩,g3,g4⟩,g5,g6⟩,g7,g8⟩:=g
 generalize x.f0=i at *
 generalize x.f1.f0.f0=l at *
 generalize x.f1.f0.f1.f0=n at *
 generalize x.f1.f0.f1.f1=s at *
 generalize x.f1.f1=b at *
 generalize x.f1.f2=u at *
 generalize x.f2.f0=c at *
 generalize x.f2.f1=z at *
 have hb:InB b:=int_bytes g5.2
 unfold laws_FnExactCrashMirror.f
 obtain ⟨r,hr,hc⟩:=szMirror_ev i l n s b u c z 1048576 (by omega) (by omega) g1 g2 g4 g5.1 g8
 refine Ev.bind hr ?_
 rcases hc with hc|⟨hc,hc1⟩
 ·exact Ev.pos hc (Ev.now _)
 ·have ht:=total_nonneg l
  obtain ⟨r2,hr2,hc2⟩:=szHeadS_ev T r hc (by omega) gT.1 (fun y hy=>(gT.2 y hy).2)
  refine Ev.neg (by omega) (Ev.bind hr2 ?_)
  rcases hc2 with hc2|⟨hc2,hc3,_⟩
  ·exact Ev.pos hc2 (Ev.now _)
  ·have hT:=toMirror_ev i l n s b u c z (by omega) (by omega)
   have hH:=toHeadS_ev T (by omega)
   have hs:=total_small (l:=l) (by omega)
   have hE:=eqMirror_ev i l n s b u c z (by omega) (by omega)
   have hEH:=eqHeadS_ev (T.map cvHead) (by simp;omega)
   obtain ⟨M1,hM1,_,_⟩:=markMirror_ev i l n s b u c z 1 (by omega) (by omega)
   obtain ⟨M2,hM2⟩:=markHeadS_ev (T.map cvHead) (1+(l.length:Int) + (b.length:Int)) (by omega) (by simp;omega)
   obtain ⟨L,N,S,m,v,C,Z,q,q1,q2,b1,b2⟩:=crash_both i l n s b u c z (T.map cvHead) keep hb (by omega) (by omega) hs (by simp;omega)
   have hER:=eqMirror_ev i L N S m v C Z (by omega) (by omega)
   obtain ⟨M,hM,hl,hm⟩:=markMirror_ev i L N S m v C Z 1 (by omega) (by omega)
   have hh:=heldMirror_ev i M N S m.length v C Z 1 (by omega) (by omega) hm
   rw [hl] at hh
   refine Ev.neg (by omega) (Ev.bind hT (Ev.bind hH (Ev.bind q1 (Ev.bind hT (Ev.bind hH (Ev.bind q2 (Ev.bind hER (Ev.pos rfl ?_))))))))
   refine Ev.step (fun k=>by simp only [laws_FnExactCrashMirror.j0];rfl) ?_
   refine Ev.neg (by simp) (Ev.bind hT (Ev.bind hE (Ev.pos rfl (Ev.bind hH (Ev.bind hEH (Ev.pos rfl (Ev.bind hM1 (Ev.bind hM2 (Ev.neg (by simp only;omega) (Ev.bind hER (Ev.pos rfl ?_)))))))))))
   refine Ev.step (fun k=>by simp only [laws_FnExactCrashMirror.j1];rfl) ?_
   refine Ev.neg (by simp) (Ev.bind hM (Ev.bind hh (Ev.neg (by omega) (Ev.pos rfl (Ev.bind hT (Ev.bind hH (Ev.bind q2 (Ev.bind hER (Ev.pos rfl ?_)))))))))
   refine Ev.step (fun k=>by simp only [laws_FnExactCrashMirror.j2];rfl) ?_
   exact Ev.neg (by simp) (Ev.bind hh (Ev.neg (by omega) (Ev.pos rfl (Ev.now _))))
end Go.Proofs.YtnlndmoecljicaaGreat.Q
namespace Go.Proofs.YtnlndmoecljicaaGreat
theorem fnExactCrashMirror_holds:Rows.FnExactCrashMirrorSaid:=Q.FnExactCrashMirror_row Q.pure_FnExactCrashMirror
end Go.Proofs.YtnlndmoecljicaaGreat
end
