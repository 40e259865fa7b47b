-- Joined and shortened by a program of this session (wip/tools/shakecopy.py): the words of the print,texts of pp.sh and of mine.
import Derived.Test.YtnlndmoecljicaaGreatKFnExactCrashMirror3
import Derived.RangeFuncNested
import Derived.RangeFuncBound
import Derived.RangeFuncCalls
import Derived.RangeFuncLeaves
import Derived.Shelf.Abstract
import Derived.Shelf.RegionOpen
import Derived.WalkKit
import Derived.OwnWalkIn
import Derived.TacticsInMore
import Derived.LoopNIn
import Derived.LoopIn
import Derived.WalkLawsBesides
import Derived.IntWalk
import Derived.RegionIn
import Derived.Outline
set_option linter.unusedVariables false
set_option linter.unusedSimpArgs false
section
namespace Go.Proofs.YtnlndmoecljicaaGreat.Q
open Go.Proofs.YtnlndmoecljicaaGreatW.PrintLast Go.Proofs.YtnlndmoecljicaaGreatW.PrintMore Go.Proofs.YtnlndmoecljicaaGreatW.PrintWords Go.RowKit
attribute [local go_sem] max2_int min2_int max_two min_two max_three min_three max_four min_four
set_option maxHeartbeats 8000000
set_option maxRecDepth 100000
section
attribute [local go_sem high] eqA37
def spec_Extend.j0:Nat->List (S37)->List ByteArray->List ByteArray->Bool->Int->ByteArray->List ByteArray->Int->ByteArray->Option (List ByteArray × Int × ByteArray × Int)
 | 0,_,_,_,_,_,_,_,_,_=>none
 | k+1,x1,x3,x11,x20,x3000,x3001,x10000,x10001,x10002=>if x20=true then (some (x10000,x10001,x10002,1)) else ((spec_IsSigned.f k x1 x3000 x3001).bind fun t21=>(if t21=true then (if (x3.length:Int)=0 then (some (x10000,x10001,x10002,3)) else ((spec_HeadOf.f k x11).bind fun bt22=>(if (!(x3000 == bt22.1) || (!(x3001.toList == bt22.2.toList)))=true then (some (x10000,x10001,x10002,4)) else (some (x11,x3000,x3001,0))))) else (some (x10000,x10001,x10002,2))))
def spec_Extend.f (k:Nat) (l0_0:List ByteArray) (a0_1:Int) (a0_2:ByteArray) (l1:List (S37)) (a2_0:Int) (a2_1:ByteArray) (l3:List ByteArray):Option (List ByteArray × Int × ByteArray × Int):=(spec_l11Copy.f l0_0 a0_1 a0_2).bind fun bt4=>((some (([]:List ByteArray):List ByteArray)).bind fun y10=>(if y10.length+l0_0.length < 8796093022208 then ((some (y10 ++ l0_0:List ByteArray)).bind fun y13=>(if y13.length+l3.length < 8796093022208 then ((some (y13 ++ l3:List ByteArray)).bind fun y16=>((spec_LogOk.f k l0_0 a0_1 a0_2).bind fun t19=>(if t19=true then ((spec_HeadOk.f a2_0 a2_1).bind fun t20=>(if t20=true then (spec_Extend.j0 k l1 l3 y16 (a2_0 != (y16.length:Int)) a2_0 a2_1 bt4.1 bt4.2.1 bt4.2.2) else (spec_Extend.j0 k l1 l3 y16 true a2_0 a2_1 bt4.1 bt4.2.1 bt4.2.2))) else (spec_Extend.j0 k l1 l3 y16 true a2_0 a2_1 bt4.1 bt4.2.1 bt4.2.2)))) else (none))) else (none)))
theorem spec_Extend.calls (k:Nat) (A0_0:Option Addr) (c0_0:Nat) (l0_0:List ByteArray) (a0_1:Int) (a0_2:ByteArray) (A1:Option Addr) (c1:Nat) (l1:List (S37)) (a2_0:Int) (a2_1:ByteArray) (A3:Option Addr) (c3:Nat) (l3:List ByteArray) (r1:List ByteArray) (r2:Int) (r3:ByteArray) (r4:Int) (w:World) (hr0_0:Kd.C Kd.string w A0_0 l0_0.length l0_0) (hc0_0:l0_0.length≤c0_0) (hr1:Kd.C k37 w A1 l1.length l1) (hc1:l1.length≤c1) (hr3:Kd.C Kd.string w A3 l3.length l3) (hc3:l3.length≤c3) (h:spec_Extend.f k l0_0 a0_1 a0_2 l1 a2_0 a2_1 l3=some (r1,r2,r3,r4)) :
  Calls Tryz.prog 150 #[.agg #[.slice A0_0 l0_0.length c0_0,.int .i64 a0_1,.string a0_2],.slice A1 l1.length c1,.agg #[.int .i64 a2_0,.string a2_1],.slice A3 l3.length c3] w fun e w'=>∃ v0_:Value,e = .returned (.tuple #[.agg #[v0_,.int .i64 r2,.string r3],.int .i64 r4])∧Kd.R Kd.string 9 w' w.heap.size (fun _=>True) v0_ r1∧Below w.heap.size w w':=by
 have hu39:=Tryz.underlying39
 have hu37:=Tryz.underlying37
 have HR0_0:=am_ hr0_0
 have HC0_0:=am_ hc0_0
 clear hr0_0 hc0_0
 have HR1:=am_ hr1
 have HC1:=am_ hc1
 clear hr1 hc1
 have HR3:=am_ hr3
 have HC3:=am_ hc3
 clear hr3 hc3
 have HB:=h0_ w
 have H:((spec_l11Copy.f l0_0 a0_1 a0_2).bind fun bt4=>((some (([]:List ByteArray):List ByteArray)).bind fun y10=>(if y10.length+l0_0.length < 8796093022208 then ((some (y10 ++ l0_0:List ByteArray)).bind fun y13=>(if y13.length+l3.length < 8796093022208 then ((some (y13 ++ l3:List ByteArray)).bind fun y16=>((spec_LogOk.f k l0_0 a0_1 a0_2).bind fun t19=>(if t19=true then ((spec_HeadOk.f a2_0 a2_1).bind fun t20=>(if t20=true then (spec_Extend.j0 k l1 l3 y16 (a2_0 != (y16.length:Int)) a2_0 a2_1 bt4.1 bt4.2.1 bt4.2.2) else (spec_Extend.j0 k l1 l3 y16 true a2_0 a2_1 bt4.1 bt4.2.1 bt4.2.2))) else (spec_Extend.j0 k l1 l3 y16 true a2_0 a2_1 bt4.1 bt4.2.1 bt4.2.2)))) else (none))) else (none))))=some (r1,r2,r3,r4):=h
 clear h
 replace H:=bi_ H;obtain ⟨⟨t4,t7,t8⟩,A5,H⟩:=H
 dsimp only at H
 obtain ⟨y10,Ny10,H⟩:=sb_ (([]:List ByteArray)) H
 replace H:=ip_ H;obtain ⟨c6,H⟩:=H
 have LMc6:=am_ c6
 clear c6
 obtain ⟨y13,Ny13,H⟩:=sb_ (y10 ++ l0_0) H
 replace H:=ip_ H;obtain ⟨c7,H⟩:=H
 have LMc7:=am_ c7
 clear c7
 obtain ⟨y16,Ny16,H⟩:=sb_ (y13 ++ l3) H
 have HC8:=am_ H
 clear H
 go_enter Tryz.func150,Tryz.ntmps150
 go_upto_region 3 with (first|((with_reducible refine gd_ 4 ?_);(try (refine gate_guard (by rfl) ?_;dsimp only));refine bx_ 4 39 #[.slice A0_0 l0_0.length c0_0,.int .i64 a0_1,.string a0_2] (hx_ HB ?_);clear HB;intro gb1 w9 BK1 GW1 HB;have GE1:=GW1)|((with_reducible refine gd_ 6 ?_);(try (refine gate_guard (by rfl) ?_;dsimp only));refine bx_ 6 37 #[.int .i64 a2_0,.string a2_1] ?_;intro gb2 hg w10 hbox hb;have BK2:=am_ hbox;have GW2:=gg_ hg HB;have GE2:=GW2;replace HB:=ss_ HB hb;have NB1_2:=nla_ hg BK1;have NB2_1:=nga_ hg BK1;replace BK1:=kl_ BK1 hb;clear hb hbox hg)|((with_reducible refine gd_ 8 ?_);(try (refine gate_guard (by rfl) ?_;dsimp only));refine x39_ 8 ?_;intro gb3 hg w11 hbox hb;have BK3:=am_ hbox;have GW3:=gg_ hg HB;have GE3:=GW3;replace HB:=ss_ HB hb;have NB1_3:=nla_ hg BK1;have NB3_1:=nga_ hg BK1;replace BK1:=kl_ BK1 hb;have NB2_3:=nla_ hg BK2;have NB3_2:=nga_ hg BK2;replace BK2:=kl_ BK2 hb;clear hb hbox hg;have hnb12:=NB1_2.out;have hnc12:=NB2_1.out;have hnb13:=NB1_3.out;have hnc13:=NB3_1.out;have hz14:=cz3_ BK1)|((with_reducible refine gq_ 125 13 ?_);refine gc_ 13 Tryz.func125 (spec_l11Copy.calls _ _ l0_0 a0_1 a0_2 t4 t7 t8 _ (cb_ HR0_0 HB) HC0_0.out A5.out) ?_;rintro e w15 ⟨v5,rfl,ho0,hb⟩;refine ⟨_,rfl,?_⟩;have HO6:=rlo_ ho0 HB;replace BK1:=kl_ BK1 hb;replace BK2:=kl_ BK2 hb;replace BK3:=kl_ BK3 hb;replace HB:=ss_ HB hb;clear hb ho0)|((with_reducible refine gd_ 10 ?_);(try (refine gate_guard (by rfl) ?_;dsimp only));refine x39_ 10 ?_;intro gb9 hg w16 hbox hb;replace HO6:=rb_ HO6 hb;have BK9:=am_ hbox;have GW9:=gg_ hg HB;have GE9:=GW9;replace HB:=ss_ HB hb;have NB1_9:=nla_ hg BK1;have NB9_1:=nga_ hg BK1;replace BK1:=kl_ BK1 hb;have NB2_9:=nla_ hg BK2;have NB9_2:=nga_ hg BK2;replace BK2:=kl_ BK2 hb;have NB3_9:=nla_ hg BK3;have NB9_3:=nga_ hg BK3;replace BK3:=kl_ BK3 hb;clear hb hbox hg;obtain ⟨Ao17,co17,eo17⟩:=Kd.R_slice HO6.out;subst eo17;have hnb18:=NB9_1.out;have hnc18:=NB1_9.out;have hnb19:=NB9_2.out;have hnc19:=NB2_9.out;have hnb20:=NB9_3.out;have hnc20:=NB3_9.out;have hz21:=cz3_ BK9)|((with_reducible refine gd_ 14 ?_);(try (refine gate_guard (by rfl) ?_;dsimp only));refine rl_ Kd.string 9 14 ([]:List ByteArray) [] ?_;intro v11 w22 ho23 hb hg_ hnew_;clear hg_ hnew_;(first|rw [← Ny10.out] at ho23|(simp only [Int.reduceToNat] at ho23;rw [← Ny10.out] at ho23));have HO12:=am_ (Kd.R_lower (Kd.R_new' ho23 (lf_ HO6 BK9)) (sz_ HB));replace HO6:=ref_ HO6 BK9 ho23 hb;replace BK1:=kp_ BK1 hb;replace BK2:=kp_ BK2 hb;replace BK3:=kp_ BK3 hb;replace BK9:=kp_ BK9 hb;replace HB:=ss_ HB hb;clear hb ho23;have hz24:=cz3_ BK1)|((with_reducible refine gate_builtin (b:=.append) (xs:=#[.tmp 14,.tmp 16]) rfl ?_);(try (refine gate_guard (by rfl) ?_;dsimp only));at_builtin;refine Kd.R_append_rows Kd.string (w0:=w) w.heap.size rfl (.tmp 14) (.tmp 16) 22 9 (.string ⟨#[]⟩) 16 rfl Tryz.underlying22 info9 rfl (by decide) (by omega) v11 y10 l0_0 _ _ _ (fun k_=>some k_ ≠ (.slice Ao17 t4.length co17:Value).ownBlock) (fun _=>False) rfl rfl ?aO ?aR (fun _ _ h=>h) (fun _ h=>h.elim) ?aF ?aB ?aS ?aL ?_;(case aR=>exact cb_ HR0_0 HB);(case aB=>exact (bw_ HB));(case aF=>exact (fun k_ hk=>Kd.fresh' (lt_ HO6) k_ hk));(case aO=>exact (kr_ (Kd.R_mono HO12.out (fun _ hk=>hk.2))));(case aS=>exact (sz_ HB));(case aL=>have:=LMc6.out;omega);intro v14 w25 ho hb hg hat;rw [← Ny13.out] at ho;replace BK1:=kg_ BK1 HO12 hg;replace BK2:=kg_ BK2 HO12 hg;replace BK3:=kg_ BK3 HO12 hg;replace HO6:=am_ (Kd.R_after (ok:=(fun _=>True)) (kr_ HO6.out) hg hat);replace BK9:=kg_ BK9 HO12 hg;replace HB:=am_ hb;have HO15:=am_ ho;clear HO12;clear ho hb hg hat)|((with_reducible refine gate_builtin (b:=.append) (xs:=#[.tmp 17,.tmp 18]) rfl ?_);(try (refine gate_guard (by rfl) ?_;dsimp only));at_builtin;refine Kd.R_append_rows Kd.string (w0:=w) w.heap.size rfl (.tmp 17) (.tmp 18) 22 9 (.string ⟨#[]⟩) 16 rfl Tryz.underlying22 info9 rfl (by decide) (by omega) v14 y13 l3 _ _ _ (fun k_=>some k_ ≠ (.slice Ao17 t4.length co17:Value).ownBlock) (fun _=>False) rfl rfl ?aO ?aR (fun _ _ h=>h) (fun _ h=>h.elim) ?aF ?aB ?aS ?aL ?_;(case aR=>exact cb_ HR3 HB);(case aB=>exact (bw_ HB));(case aF=>exact (fun k_ hk=>Kd.fresh' (lt_ HO6) k_ hk));(case aO=>exact (kr_ HO15.out));(case aS=>exact (sz_ HB));(case aL=>have:=LMc7.out;omega);intro v17 w26 ho hb hg hat;rw [← Ny16.out] at ho;replace BK1:=kg_ BK1 HO15 hg;replace BK2:=kg_ BK2 HO15 hg;replace BK3:=kg_ BK3 HO15 hg;replace HO6:=am_ (Kd.R_after (ok:=(fun _=>True)) (kr_ HO6.out) hg hat);replace BK9:=kg_ BK9 HO15 hg;replace HB:=am_ hb;have HO18:=am_ ho;clear HO15;clear ho hb hg hat))
 (try simp only [Act.put,List.setIfInBounds_toArray,List.set_cons_zero,List.set_cons_succ])
 go_cut [20] (fun v20 wc=>∃ (kq:Nat) (x20_7:Bool),v20 = .bool x20_7∧Aside0 (spec_Extend.j0 kq l1 l3 y16 x20_7 a2_0 a2_1 t4 t7 t8=some (r1,r2,r3,r4))∧Aside0 (kq≤k)∧Aside0 (Kd.R Kd.string 9 wc w.heap.size (fun k_=>some k_ ≠ ((.slice Ao17 t4.length co17):Value).ownBlock) v17 y16)∧Aside0 (Kd.R Kd.string 9 wc w.heap.size (fun k_=>some k_ ≠ (v17:Value).ownBlock) (.slice Ao17 t4.length co17) t4)∧Aside0 (wc.heap[gb1]?=some (.cells #[(.slice A0_0 l0_0.length c0_0),.int .i64 a0_1,.string a0_2] 39 (0,0)))∧Aside0 (wc.heap[gb2]?=some (.cells #[.int .i64 a2_0,.string a2_1] 37 (0,0)))∧Aside0 (wc.heap[gb3]?=some (.cells #[(.slice none 0 0),.int .i64 0,.string (⟨#[]⟩:ByteArray)] 39 (0,0)))∧Aside0 (wc.heap[gb9]?=some (.cells #[(.slice Ao17 t4.length co17),.int .i64 t7,.string t8] 39 (0,0)))∧Aside0 (Below w.heap.size w wc))
 case first =>
  have H:=HC8.out
  clear HC8
  replace H:=bi_ H;obtain ⟨t19,A27,H⟩:=H
  replace H:=itb_ H;obtain ⟨rfl,H⟩|⟨rfl,H⟩:=H
  ·replace H:=bi_ H;obtain ⟨t20,A29,H⟩:=H
   replace H:=itb_ H;obtain ⟨rfl,H⟩|⟨rfl,H⟩:=H
   ·have H':=am_ H
    clear H
    have hnb31:=NB1_2.out
    have hnc31:=NB2_1.out
    have hnb32:=NB1_3.out
    have hnc32:=NB3_1.out
    have hnb33:=NB1_9.out
    have hnc33:=NB9_1.out
    have hz34:=cz3_ BK1
    go_wp2_with (first|((with_reducible refine gq_ 107 22 ?_);refine gc_ 22 Tryz.func107 (spec_LogOk.calls k _ _ l0_0 a0_1 a0_2 true _ (cb_ HR0_0 HB) HC0_0.out A27.out) ?_;rintro e w35 ⟨rfl,hb⟩;refine ⟨_,rfl,?_⟩;replace HO6:=rb_ HO6 hb;replace HO18:=rb_ HO18 hb;replace BK1:=kl_ BK1 hb;replace BK2:=kl_ BK2 hb;replace BK3:=kl_ BK3 hb;replace BK9:=kl_ BK9 hb;replace HB:=ss_ HB hb;clear hb;have hnb36:=NB2_3.out;have hnc36:=NB3_2.out;have hnb37:=NB2_9.out;have hnc37:=NB9_2.out;have hz38:=cz2_ BK2)|(go_at_call 74;(with_reducible refine (spec_HeadOk.calls a2_0 a2_1 true _ A29.out).mono ?_);rintro e w39 ⟨rfl,hb⟩;replace HO6:=rb_ HO6 hb;replace HO18:=rb_ HO18 hb;replace BK1:=kl_ BK1 hb;replace BK2:=kl_ BK2 hb;replace BK3:=kl_ BK3 hb;replace BK9:=kl_ BK9 hb;replace HB:=ss_ HB hb;clear hb;have hz40:=cz2_ BK2;obtain ⟨Ao41,co41,eo41⟩:=Kd.R_slice HO18.out;subst eo41))
    go_meet
    case rel => exact ⟨_,((a2_0 != (y16.length:Int))),e1_,H',⟨le_⟩,⟨kr_ HO18.out⟩,⟨kr_ (Kd.R_mono HO6.out (fun _ hk=>hk.2))⟩,⟨kb_ BK1.out⟩,⟨kb_ BK2.out⟩,⟨kb_ BK3.out⟩,⟨kb_ BK9.out⟩,⟨bw_ HB⟩⟩
   ·have H':=am_ H
    clear H
    have hnb42:=NB1_2.out
    have hnc42:=NB2_1.out
    have hnb43:=NB1_3.out
    have hnc43:=NB3_1.out
    have hnb44:=NB1_9.out
    have hnc44:=NB9_1.out
    have hz45:=cz3_ BK1
    go_wp2_with (first|((with_reducible refine gq_ 107 22 ?_);refine gc_ 22 Tryz.func107 (spec_LogOk.calls k _ _ l0_0 a0_1 a0_2 true _ (cb_ HR0_0 HB) HC0_0.out A27.out) ?_;rintro e w46 ⟨rfl,hb⟩;refine ⟨_,rfl,?_⟩;replace HO6:=rb_ HO6 hb;replace HO18:=rb_ HO18 hb;replace BK1:=kl_ BK1 hb;replace BK2:=kl_ BK2 hb;replace BK3:=kl_ BK3 hb;replace BK9:=kl_ BK9 hb;replace HB:=ss_ HB hb;clear hb;have hnb47:=NB2_3.out;have hnc47:=NB3_2.out;have hnb48:=NB2_9.out;have hnc48:=NB9_2.out;have hz49:=cz2_ BK2)|(go_at_call 74;(with_reducible refine (spec_HeadOk.calls a2_0 a2_1 false _ A29.out).mono ?_);rintro e w50 ⟨rfl,hb⟩;replace HO6:=rb_ HO6 hb;replace HO18:=rb_ HO18 hb;replace BK1:=kl_ BK1 hb;replace BK2:=kl_ BK2 hb;replace BK3:=kl_ BK3 hb;replace BK9:=kl_ BK9 hb;replace HB:=ss_ HB hb;clear hb))
    go_meet
    case rel => exact ⟨_,(true),e1_,H',⟨le_⟩,⟨kr_ HO18.out⟩,⟨kr_ (Kd.R_mono HO6.out (fun _ hk=>hk.2))⟩,⟨kb_ BK1.out⟩,⟨kb_ BK2.out⟩,⟨kb_ BK3.out⟩,⟨kb_ BK9.out⟩,⟨bw_ HB⟩⟩
  ·have H':=am_ H
   clear H
   have hnb51:=NB1_2.out
   have hnc51:=NB2_1.out
   have hnb52:=NB1_3.out
   have hnc52:=NB3_1.out
   have hnb53:=NB1_9.out
   have hnc53:=NB9_1.out
   have hz54:=cz3_ BK1
   go_wp2_with (first|((with_reducible refine gq_ 107 22 ?_);refine gc_ 22 Tryz.func107 (spec_LogOk.calls k _ _ l0_0 a0_1 a0_2 false _ (cb_ HR0_0 HB) HC0_0.out A27.out) ?_;rintro e w55 ⟨rfl,hb⟩;refine ⟨_,rfl,?_⟩;replace HO6:=rb_ HO6 hb;replace HO18:=rb_ HO18 hb;replace BK1:=kl_ BK1 hb;replace BK2:=kl_ BK2 hb;replace BK3:=kl_ BK3 hb;replace BK9:=kl_ BK9 hb;replace HB:=ss_ HB hb;clear hb))
   go_meet
   case rel => exact ⟨_,(true),e1_,H',⟨le_⟩,⟨kr_ HO18.out⟩,⟨kr_ (Kd.R_mono HO6.out (fun _ hk=>hk.2))⟩,⟨kb_ BK1.out⟩,⟨kb_ BK2.out⟩,⟨kb_ BK3.out⟩,⟨kb_ BK9.out⟩,⟨bw_ HB⟩⟩
 case rest =>
  clear HC8
  try clear c6
  try clear c7
  try clear hz14
  try clear hz21
  try clear hz24
  obtain ⟨kq,x20_7,rfl,HA,HJ7,HO_11,HO_10000,BK1,BK2,BK3,BK9,HB⟩:=hcut
  cases kq with
  | zero=>exact absurd HA.out (by simp [spec_Extend.j0])
  | succ kj7 =>
   have H:=HA.out
   clear HA
   simp only [spec_Extend.j0] at H
   replace H:=itb_ H;obtain ⟨rfl,H⟩|⟨rfl,H⟩:=H
   ·replace H:=so4_ H;obtain ⟨rfl,rfl,rfl,rfl⟩:=H
    have hnb57:=NB9_1.out
    have hnc57:=NB1_9.out
    have hnb58:=NB9_2.out
    have hnc58:=NB2_9.out
    have hnb59:=NB9_3.out
    have hnc59:=NB3_9.out
    have hz60:=cz3_ BK9
    have hnb61:=NB3_1.out
    have hnc61:=NB1_3.out
    have hnb62:=NB3_2.out
    have hnc62:=NB2_3.out
    have hz63:=cz3_ BK3
    go_wp2
    refine bodyPost_ret (rct_ gb3 39 #[.slice Ao17 t4.length co17,.int .i64 t7,.string t8] BK3 Tryz.underlying39) rfl ?_
    exact ⟨_,e2_,kfm_ HO_10000 BK3,bw_ HB⟩
   ·replace H:=bi_ H;obtain ⟨t21,A64,H⟩:=H
    replace H:=itb_ H;obtain ⟨rfl,H⟩|⟨rfl,H⟩:=H
    ·replace H:=it_ H;obtain ⟨c66,H⟩|⟨c66,H⟩:=H
     ·have c66b0:((l3.length:Int) == 0)=true:=beq_iff_eq.mpr c66
      have c66b1:((l3.length:Int) != 0)=false:=bne_eq_false_iff_eq.mpr c66
      clear c66
      replace H:=so4_ H;obtain ⟨rfl,rfl,rfl,rfl⟩:=H
      have hnb67:=NB2_1.out
      have hnc67:=NB1_2.out
      have hnb68:=NB2_3.out
      have hnc68:=NB3_2.out
      have hnb69:=NB2_9.out
      have hnc69:=NB9_2.out
      have hz70:=cz2_ BK2
      go_wp2_with (first|((with_reducible refine gq_ 111 40 ?_);refine gc_ 40 Tryz.func111 (spec_IsSigned.calls kj7 _ _ l1 a2_0 a2_1 true _ (cb_ HR1 HB) HC1.out A64.out) ?_;rintro e w71 ⟨rfl,hb⟩;refine ⟨_,rfl,?_⟩;replace HO_11:=rb_ HO_11 hb;replace HO_10000:=rb_ HO_10000 hb;replace BK1:=kl_ BK1 hb;replace BK2:=kl_ BK2 hb;replace BK3:=kl_ BK3 hb;replace BK9:=kl_ BK9 hb;replace HB:=ss_ HB hb;clear hb;have hnb72:=NB9_1.out;have hnc72:=NB1_9.out;have hnb73:=NB9_3.out;have hnc73:=NB3_9.out;have hz74:=cz3_ BK9;have hnb75:=NB3_1.out;have hnc75:=NB1_3.out;have hz76:=cz3_ BK3))
      refine bodyPost_ret (rct_ gb3 39 #[.slice Ao17 t4.length co17,.int .i64 t7,.string t8] BK3 Tryz.underlying39) rfl ?_
      exact ⟨_,e2_,kfm_ HO_10000 BK3,bw_ HB⟩
     ·have c66b0:((l3.length:Int) == 0)=false:=beq_eq_false_iff_ne.mpr c66
      have c66b1:((l3.length:Int) != 0)=true:=bne_iff_ne.mpr c66
      have c66b2:¬ (l3=[]):=fun h_=>c66 (by rw [h_];rfl)
      replace H:=bi_ H;obtain ⟨⟨t22,t23⟩,A77,H⟩:=H
      dsimp only at H
      replace H:=it_ H;obtain ⟨c78,H⟩|⟨c78,H⟩:=H
      ·have c78b0:(!(a2_0 == t22) || (!(a2_1.toList == t23.toList)))=true:=c78
       clear c78
       replace H:=so4_ H;obtain ⟨rfl,rfl,rfl,rfl⟩:=H
       have hnb79:=NB2_1.out
       have hnc79:=NB1_2.out
       have hnb80:=NB2_3.out
       have hnc80:=NB3_2.out
       have hnb81:=NB2_9.out
       have hnc81:=NB9_2.out
       have hz82:=cz2_ BK2
       try go_wp2_with (first|((with_reducible refine gq_ 111 40 ?_);refine gc_ 40 Tryz.func111 (spec_IsSigned.calls kj7 _ _ l1 a2_0 a2_1 true _ (cb_ HR1 HB) HC1.out A64.out) ?_;rintro e w83 ⟨rfl,hb⟩;refine ⟨_,rfl,?_⟩;replace HO_11:=rb_ HO_11 hb;replace HO_10000:=rb_ HO_10000 hb;replace BK1:=kl_ BK1 hb;replace BK2:=kl_ BK2 hb;replace BK3:=kl_ BK3 hb;replace BK9:=kl_ BK9 hb;replace HB:=ss_ HB hb;clear hb))
       replace HO_11:=am_ (Kd.R_drew HO_11.out)
       replace HO_10000:=am_ (Kd.R_drew HO_10000.out)
       replace BK1:=bd_ BK1
       replace BK2:=bd_ BK2
       replace BK3:=bd_ BK3
       replace BK9:=bd_ BK9
       replace HB:=hd_ HB
       obtain ⟨Ao85,co85,eo85⟩:=Kd.R_slice HO_11.out
       subst eo85
       refine start_ (n:=5) (S:=fun w'=>w'.cell? ⟨gb2,0,none⟩=some (.int .i64 a2_0)∧w'.cell? ⟨gb2,1,none⟩=some (.string a2_1)) (ds:=[]) (lz_ 5 0) (by kernel_rfl) rfl rfl ⟨bc0_ BK2.out,bc1_ BK2.out⟩ (fun hHeld=>?_)
       generalize w83.drew=w84 at HO_11 HO_10000 BK1 BK2 BK3 BK9 HB hHeld ⊢
       refine pk_ 1 50 2 ?_
       refine tk_ 0 49 3 ?_
       refine one_ (i:=2) (N:=some 51) (lz_ 5 7) rfl rfl (by kernel_rfl) (by decide) (fun K hK=>?_)
       refine gf_ Tryz.func110 (spec_HeadOf.calls kj7 _ _ y16 t22 t23 _ (ch_ HO_11) (cl_ HO_11) A77.out) ?_
       rintro e w86 ⟨rfl,hb⟩
       refine ⟨_,rfl,?_⟩
       replace HO_11:=rb_ HO_11 hb
       replace HO_10000:=rb_ HO_10000 hb
       replace BK1:=kl_ BK1 hb
       replace BK2:=kl_ BK2 hb
       replace BK3:=kl_ BK3 hb
       replace BK9:=kl_ BK9 hb
       replace HB:=ss_ HB hb
       clear hb
       refine hK.out _ _ ⟨bc0_ BK2.out,bc1_ BK2.out⟩ (fun hHeld=>?_)
       clear hK K
       refine no_ 51 ?_
       refine pk_ 3 52 15 ?_
       refine pk_ 4 48 31 ?_
       refine done_ (by kernel_rfl) ?_
       have hnb87:=NB9_1.out
       have hnc87:=NB1_9.out
       have hnb88:=NB9_3.out
       have hnc88:=NB3_9.out
       have hz89:=cz3_ BK9
       have hnb90:=NB3_1.out
       have hnc90:=NB1_3.out
       have hz91:=cz3_ BK3
       try go_wp2
       refine bodyPost_ret (rct_ gb3 39 #[.slice Ao17 t4.length co17,.int .i64 t7,.string t8] BK3 Tryz.underlying39) rfl ?_
       exact ⟨_,e2_,kfm_ HO_10000 BK3,bw_ HB⟩
      ·have c78b0:(!(a2_0 == t22) || (!(a2_1.toList == t23.toList)))=false:=by simpa using c78
       clear c78
       replace H:=so4_ H;obtain ⟨rfl,rfl,rfl,rfl⟩:=H
       have hnb92:=NB2_1.out
       have hnc92:=NB1_2.out
       have hnb93:=NB2_3.out
       have hnc93:=NB3_2.out
       have hnb94:=NB2_9.out
       have hnc94:=NB9_2.out
       have hz95:=cz2_ BK2
       try go_wp2_with (first|((with_reducible refine gq_ 111 40 ?_);refine gc_ 40 Tryz.func111 (spec_IsSigned.calls kj7 _ _ l1 a2_0 a2_1 true _ (cb_ HR1 HB) HC1.out A64.out) ?_;rintro e w96 ⟨rfl,hb⟩;refine ⟨_,rfl,?_⟩;replace HO_11:=rb_ HO_11 hb;replace HO_10000:=rb_ HO_10000 hb;replace BK1:=kl_ BK1 hb;replace BK2:=kl_ BK2 hb;replace BK3:=kl_ BK3 hb;replace BK9:=kl_ BK9 hb;replace HB:=ss_ HB hb;clear hb))
       replace HO_11:=am_ (Kd.R_drew HO_11.out)
       replace HO_10000:=am_ (Kd.R_drew HO_10000.out)
       replace BK1:=bd_ BK1
       replace BK2:=bd_ BK2
       replace BK3:=bd_ BK3
       replace BK9:=bd_ BK9
       replace HB:=hd_ HB
       obtain ⟨Ao98,co98,eo98⟩:=Kd.R_slice HO_11.out
       subst eo98
       refine start_ (n:=5) (S:=fun w'=>w'.cell? ⟨gb2,0,none⟩=some (.int .i64 a2_0)∧w'.cell? ⟨gb2,1,none⟩=some (.string a2_1)) (ds:=[]) (lz_ 5 0) (by kernel_rfl) rfl rfl ⟨bc0_ BK2.out,bc1_ BK2.out⟩ (fun hHeld=>?_)
       generalize w96.drew=w97 at HO_11 HO_10000 BK1 BK2 BK3 BK9 HB hHeld ⊢
       refine pk_ 1 50 2 ?_
       refine tk_ 0 49 3 ?_
       refine one_ (i:=2) (N:=some 51) (lz_ 5 7) rfl rfl (by kernel_rfl) (by decide) (fun K hK=>?_)
       refine gf_ Tryz.func110 (spec_HeadOf.calls kj7 _ _ y16 t22 t23 _ (ch_ HO_11) (cl_ HO_11) A77.out) ?_
       rintro e w99 ⟨rfl,hb⟩
       refine ⟨_,rfl,?_⟩
       replace HO_11:=rb_ HO_11 hb
       replace HO_10000:=rb_ HO_10000 hb
       replace BK1:=kl_ BK1 hb
       replace BK2:=kl_ BK2 hb
       replace BK3:=kl_ BK3 hb
       replace BK9:=kl_ BK9 hb
       replace HB:=ss_ HB hb
       clear hb
       refine hK.out _ _ ⟨bc0_ BK2.out,bc1_ BK2.out⟩ (fun hHeld=>?_)
       clear hK K
       refine no_ 51 ?_
       refine pk_ 3 52 15 ?_
       refine pk_ 4 48 31 ?_
       refine done_ (by kernel_rfl) ?_
       have hz100:=cz2_ BK2
       have hnb101:=NB3_1.out
       have hnc101:=NB1_3.out
       have hnb102:=NB3_9.out
       have hnc102:=NB9_3.out
       have hz103:=cz3_ BK3
       try go_wp2
       refine bodyPost_ret (rct_ gb3 39 #[.slice Ao98 y16.length co98,.int .i64 a2_0,.string a2_1] BK3 Tryz.underlying39) rfl ?_
       exact ⟨_,e2_,kfm_ HO_11 BK3,bw_ HB⟩
    ·replace H:=so4_ H;obtain ⟨rfl,rfl,rfl,rfl⟩:=H
     have hnb104:=NB2_1.out
     have hnc104:=NB1_2.out
     have hnb105:=NB2_3.out
     have hnc105:=NB3_2.out
     have hnb106:=NB2_9.out
     have hnc106:=NB9_2.out
     have hz107:=cz2_ BK2
     go_wp2_with (first|((with_reducible refine gq_ 111 40 ?_);refine gc_ 40 Tryz.func111 (spec_IsSigned.calls kj7 _ _ l1 a2_0 a2_1 false _ (cb_ HR1 HB) HC1.out A64.out) ?_;rintro e w108 ⟨rfl,hb⟩;refine ⟨_,rfl,?_⟩;replace HO_11:=rb_ HO_11 hb;replace HO_10000:=rb_ HO_10000 hb;replace BK1:=kl_ BK1 hb;replace BK2:=kl_ BK2 hb;replace BK3:=kl_ BK3 hb;replace BK9:=kl_ BK9 hb;replace HB:=ss_ HB hb;clear hb;have hnb109:=NB9_1.out;have hnc109:=NB1_9.out;have hnb110:=NB9_3.out;have hnc110:=NB3_9.out;have hz111:=cz3_ BK9;have hnb112:=NB3_1.out;have hnc112:=NB1_3.out;have hz113:=cz3_ BK3))
     refine bodyPost_ret (rct_ gb3 39 #[.slice Ao17 t4.length co17,.int .i64 t7,.string t8] BK3 Tryz.underlying39) rfl ?_
     exact ⟨_,e2_,kfm_ HO_10000 BK3,bw_ HB⟩
end
def spec_StoreNew.f (k:Nat)  : Option (List ByteArray × Int × ByteArray × List Int × Int):=(spec_LogNew.f k).bind fun bt2=>(some (bt2.1,bt2.2.1,bt2.2.2,([]:List Int),0))
theorem spec_StoreNew.calls (k:Nat)  (r1:List ByteArray) (r2:Int) (r3:ByteArray) (r4:List Int) (r5:Int) (w:World) (h:spec_StoreNew.f k  = some (r1,r2,r3,r4,r5)) :
  Calls Tryz.prog 126 #[] w fun e w'=>∃ v0_ v3_:Value,e = .returned (.agg #[v0_,.int .i64 r2,.string r3,v3_,.int .i64 r5])∧Kd.R Kd.string 9 w' w.heap.size (fun _=>True) v0_ r1∧Kd.R (Kd.int .u8) 5 w' w.heap.size (fun _=>True) v3_ r4∧Below w.heap.size w w':=by
 have hu41:=Tryz.underlying41
 have HB:=h0_ w
 have H:((spec_LogNew.f k).bind fun bt2=>(some (bt2.1,bt2.2.1,bt2.2.2,([]:List Int),0)))=some (r1,r2,r3,r4,r5):=h
 clear h
 replace H:=bi_ H;obtain ⟨⟨t602,t5,t6⟩,A1,H⟩:=H
 dsimp only at H
 replace H:=so5_ H;obtain ⟨rfl,rfl,rfl,rfl,rfl⟩:=H
 go_enter Tryz.func126,Tryz.ntmps126
 go_wp2_with (first|((with_reducible refine gd_ 0 ?_);refine x41_ 0 (hx_ HB ?_);clear HB;intro gb1 w2 BK1 GW1 HB;have GE1:=GW1)|((with_reducible refine gq_ 137 1 ?_);refine gc_ 1 Tryz.func137 (spec_LogNew.calls k  t602 t5 t6 _ A1.out) ?_;rintro e w3 ⟨v3,rfl,ho0,hb⟩;refine ⟨_,rfl,?_⟩;have HO4:=rlo_ ho0 HB;replace BK1:=kl_ BK1 hb;replace HB:=ss_ HB hb;clear hb ho0;obtain ⟨Ao4,co4,eo4⟩:=Kd.R_slice HO4.out;subst eo4;have hz5:=cz5_ BK1))
 refine bodyPost_ret (rcr_ gb1 41 #[.slice Ao4 t602.length co4,.int .i64 t5,.string t6,.slice none 0 0,.int .i64 0] BK1 Tryz.underlying41) rfl ?_
 exact ⟨_,_,e2_,kfm_ HO4 BK1,nil_,bw_ HB⟩
section
variable {α:Type} {d:Kd α} {e base:Nat} {ok:Nat->Prop} {w W:World} {v:Value} {xs:List α}
theorem rfa_ {g1 g2 i:Nat} {u:Value} (h:d.R e w base (fun k=>(ok k∧k ≠ g1)∧k ≠ g2) v xs):d.R e (w.setCell ⟨g2,i,none⟩ u) base (fun k=>(ok k∧k ≠ g1)∧k ≠ g2) v xs:=Kd.R_far h (fun _ hk=>hk.2) u
theorem rfb_ {g1 g2 i:Nat} {u:Value} (h:d.R e w base (fun k=>(ok k∧k ≠ g1)∧k ≠ g2) v xs):d.R e (w.setCell ⟨g1,i,none⟩ u) base (fun k=>(ok k∧k ≠ g1)∧k ≠ g2) v xs:=Kd.R_far h (fun _ hk=>hk.1.2) u
theorem rga_ {g1 g2 g3 i:Nat} {u:Value} (h:d.R e w base (fun k=>((ok k∧k ≠ g1)∧k ≠ g2)∧k ≠ g3) v xs):d.R e (w.setCell ⟨g3,i,none⟩ u) base (fun k=>((ok k∧k ≠ g1)∧k ≠ g2)∧k ≠ g3) v xs:=Kd.R_far h (fun _ hk=>hk.2) u
theorem rgb_ {g1 g2 g3 i:Nat} {u:Value} (h:d.R e w base (fun k=>((ok k∧k ≠ g1)∧k ≠ g2)∧k ≠ g3) v xs):d.R e (w.setCell ⟨g2,i,none⟩ u) base (fun k=>((ok k∧k ≠ g1)∧k ≠ g2)∧k ≠ g3) v xs:=Kd.R_far h (fun _ hk=>hk.1.2) u
theorem rgc_ {g1 g2 g3 i:Nat} {u:Value} (h:d.R e w base (fun k=>((ok k∧k ≠ g1)∧k ≠ g2)∧k ≠ g3) v xs):d.R e (w.setCell ⟨g1,i,none⟩ u) base (fun k=>((ok k∧k ≠ g1)∧k ≠ g2)∧k ≠ g3) v xs:=Kd.R_far h (fun _ hk=>hk.1.1.2) u
theorem kf2_ {g1 g2 t1 t2:Nat} {cs1 cs2:Array Value} (h:Aside0 (d.R e w base ok v xs)) (k1:Aside0 (w.heap[g1]?=some (.cells cs1 t1 (0,0)))) (k2:Aside0 (w.heap[g2]?=some (.cells cs2 t2 (0,0)))) (hn1:∀ q,q ∈ e :: d.E->q ≠ t1:=by decide) (hn2:∀ q,q ∈ e :: d.E->q ≠ t2:=by decide) (f:d.R e w base (fun k=>(ok k∧k ≠ g1)∧k ≠ g2) v xs->d.R e W base (fun k=>(ok k∧k ≠ g1)∧k ≠ g2) v xs:=by intro h_;repeat (with_reducible first|exact h_|apply Kd.R_alloc|apply Kd.R_drewN|apply Kd.R_drew|apply rfa_|apply rfb_)):d.R e W base ok v xs:=Kd.R_mono (f (Kd.R_types (Kd.R_types h.out k1.out hn1) k2.out hn2)) (fun _ h_=>h_.1.1)
theorem kf3_ {g1 g2 g3 t1 t2 t3:Nat} {cs1 cs2 cs3:Array Value} (h:Aside0 (d.R e w base ok v xs)) (k1:Aside0 (w.heap[g1]?=some (.cells cs1 t1 (0,0)))) (k2:Aside0 (w.heap[g2]?=some (.cells cs2 t2 (0,0)))) (k3:Aside0 (w.heap[g3]?=some (.cells cs3 t3 (0,0)))) (hn1:∀ q,q ∈ e :: d.E->q ≠ t1:=by decide) (hn2:∀ q,q ∈ e :: d.E->q ≠ t2:=by decide) (hn3:∀ q,q ∈ e :: d.E->q ≠ t3:=by decide) (f:d.R e w base (fun k=>((ok k∧k ≠ g1)∧k ≠ g2)∧k ≠ g3) v xs->d.R e W base (fun k=>((ok k∧k ≠ g1)∧k ≠ g2)∧k ≠ g3) v xs:=by intro h_;repeat (with_reducible first|exact h_|apply Kd.R_alloc|apply Kd.R_drewN|apply Kd.R_drew|apply rga_|apply rgb_|apply rgc_)):d.R e W base ok v xs:=Kd.R_mono (f (Kd.R_types (Kd.R_types (Kd.R_types h.out k1.out hn1) k2.out hn2) k3.out hn3)) (fun _ h_=>h_.1.1.1)
end
def spec_l12Commit.f (k:Nat) (l0_0:List ByteArray) (a0_1:Int) (a0_2:ByteArray) (l0_3:List Int) (a0_4:Int) (l1:List (S37)) (a2_0:Int) (a2_1:ByteArray) (l3:List ByteArray):Option (List ByteArray × Int × ByteArray × List Int × Int × Int):=(spec_l12Copy.f l0_0 a0_1 a0_2 l0_3 a0_4).bind fun bt4=>((spec_Extend.f k l0_0 a0_1 a0_2 l1 a2_0 a2_1 l3).bind fun bt14=>(if bt14.2.2.2=0 then ((spec_l12Put.f k a2_0 a2_1 l3).bind fun t21=>(if bt4.2.2.2.1.length+t21.length < 140737488355328 then (some (bt14.1,bt14.2.1,bt14.2.2.1,(bt4.2.2.2.1 ++ t21),bt4.2.2.2.2,0)) else (none))) else (some (bt4.1,bt4.2.1,bt4.2.2.1,bt4.2.2.2.1,bt4.2.2.2.2,bt14.2.2.2))))
def spec_l12Commit.T6:Bool × List (List Nat × List Nat):=(true,[([],[]),([0],[0]),([],[]),([],[]),([2,3],[2,3]),([1,4,4],[1,4]),([0,1,2,3,4,5],[]),([6,5,5,0,1,2,3,4,5],[5,6])])
def spec_l12Commit.B6:List Nat:=[0,1,0,0,12,31,63,127]
theorem spec_l12Commit.tab6:rtab .any (opsOf Tryz.f128 6)=spec_l12Commit.T6:=by kernel_rfl
theorem spec_l12Commit.bits6:waitsOk spec_l12Commit.T6.2 spec_l12Commit.B6=true:=by kernel_rfl
theorem spec_l12Commit.calls (k:Nat) (A0_0:Option Addr) (c0_0:Nat) (l0_0:List ByteArray) (a0_1:Int) (a0_2:ByteArray) (A0_3:Option Addr) (c0_3:Nat) (l0_3:List Int) (a0_4:Int) (A1:Option Addr) (c1:Nat) (l1:List (S37)) (a2_0:Int) (a2_1:ByteArray) (A3:Option Addr) (c3:Nat) (l3:List ByteArray) (r1:List ByteArray) (r2:Int) (r3:ByteArray) (r4:List Int) (r5:Int) (r6:Int) (w:World) (hr0_0:Kd.C Kd.string w A0_0 l0_0.length l0_0) (hc0_0:l0_0.length≤c0_0) (hr0_3:Kd.C (Kd.int .u8) w A0_3 l0_3.length l0_3) (hc0_3:l0_3.length≤c0_3) (hr1:Kd.C k37 w A1 l1.length l1) (hc1:l1.length≤c1) (hr3:Kd.C Kd.string w A3 l3.length l3) (hc3:l3.length≤c3) (h:spec_l12Commit.f k l0_0 a0_1 a0_2 l0_3 a0_4 l1 a2_0 a2_1 l3=some (r1,r2,r3,r4,r5,r6)) :
  Calls Tryz.prog 128 #[.agg #[.slice A0_0 l0_0.length c0_0,.int .i64 a0_1,.string a0_2,.slice A0_3 l0_3.length c0_3,.int .i64 a0_4],.slice A1 l1.length c1,.agg #[.int .i64 a2_0,.string a2_1],.slice A3 l3.length c3] w fun e w'=>∃ v0_ v3_:Value,e = .returned (.tuple #[.agg #[v0_,.int .i64 r2,.string r3,v3_,.int .i64 r5],.int .i64 r6])∧Kd.R Kd.string 9 w' w.heap.size (fun _=>True) v0_ r1∧Kd.R (Kd.int .u8) 5 w' w.heap.size (fun _=>True) v3_ r4∧Below w.heap.size w w':=by
 have hu41:=Tryz.underlying41
 have hu37:=Tryz.underlying37
 have hu39:=Tryz.underlying39
 have HR0_0:=am_ hr0_0
 have HC0_0:=am_ hc0_0
 clear hr0_0 hc0_0
 have HR0_3:=am_ hr0_3
 have HC0_3:=am_ hc0_3
 clear hr0_3 hc0_3
 have HR1:=am_ hr1
 have HC1:=am_ hc1
 clear hr1 hc1
 have HR3:=am_ hr3
 have HC3:=am_ hc3
 clear hr3 hc3
 have HB:=h0_ w
 have H:((spec_l12Copy.f l0_0 a0_1 a0_2 l0_3 a0_4).bind fun bt4=>((spec_Extend.f k l0_0 a0_1 a0_2 l1 a2_0 a2_1 l3).bind fun bt14=>(if bt14.2.2.2=0 then ((spec_l12Put.f k a2_0 a2_1 l3).bind fun t21=>(if bt4.2.2.2.1.length+t21.length < 140737488355328 then (some (bt14.1,bt14.2.1,bt14.2.2.1,(bt4.2.2.2.1 ++ t21),bt4.2.2.2.2,0)) else (none))) else (some (bt4.1,bt4.2.1,bt4.2.2.1,bt4.2.2.2.1,bt4.2.2.2.2,bt14.2.2.2)))))=some (r1,r2,r3,r4,r5,r6):=h
 clear h
 replace H:=bi_ H;obtain ⟨⟨t4,t7,t8,t9,t12⟩,A5,H⟩:=H
 dsimp only at H
 replace H:=bi_ H;obtain ⟨⟨t14,t17,t18,t19⟩,A6,H⟩:=H
 dsimp only at H
 replace H:=it_ H;obtain ⟨c7,H⟩|⟨c7,H⟩:=H
 ·have c7b0:(t19 == 0)=true:=beq_iff_eq.mpr c7
  have c7b1:(t19 != 0)=false:=bne_eq_false_iff_eq.mpr c7
  clear c7
  replace H:=bi_ H;obtain ⟨t21,A8,H⟩:=H
  replace H:=ip_ H;obtain ⟨c9,H⟩:=H
  have LMc9:=am_ c9
  clear c9
  obtain ⟨y24,hy24⟩:∃ y_:List Int,y_=(t9 ++ t21):=⟨_,rfl⟩
  replace H:(some (t14,t17,t18,y24,t12,0))=some (r1,r2,r3,r4,r5,r6):=yh_ hy24 H
  have Ny24:=am_ hy24
  clear hy24
  replace H:=so6_ H;obtain ⟨rfl,rfl,rfl,rfl,rfl,rfl⟩:=H
  go_enter Tryz.func128,Tryz.ntmps128
  try go_wp2_with (first|((with_reducible refine gd_ 4 ?_);refine bx_ 4 41 #[.slice A0_0 l0_0.length c0_0,.int .i64 a0_1,.string a0_2,.slice A0_3 l0_3.length c0_3,.int .i64 a0_4] (hx_ HB ?_);clear HB;intro gb1 w10 BK1 GW1 HB;have GE1:=GW1)|((with_reducible refine gd_ 6 ?_);refine bx_ 6 37 #[.int .i64 a2_0,.string a2_1] ?_;intro gb2 hg w11 hbox hb;have BK2:=am_ hbox;have GW2:=gg_ hg HB;have GE2:=GW2;replace HB:=ss_ HB hb;have NB1_2:=nla_ hg BK1;have NB2_1:=nga_ hg BK1;replace BK1:=kl_ BK1 hb;clear hb hbox hg)|((with_reducible refine gd_ 8 ?_);refine x41_ 8 ?_;intro gb3 hg w12 hbox hb;have BK3:=am_ hbox;have GW3:=gg_ hg HB;have GE3:=GW3;replace HB:=ss_ HB hb;have NB1_3:=nla_ hg BK1;have NB3_1:=nga_ hg BK1;replace BK1:=kl_ BK1 hb;have NB2_3:=nla_ hg BK2;have NB3_2:=nga_ hg BK2;replace BK2:=kl_ BK2 hb;clear hb hbox hg;have hnb13:=NB1_2.out;have hnc13:=NB2_1.out;have hnb14:=NB1_3.out;have hnc14:=NB3_1.out;have hz15:=cz5_ BK1)|((with_reducible refine gq_ 93 14 ?_);refine gc_ 14 Tryz.func93 (spec_l12Copy.calls _ _ l0_0 a0_1 a0_2 _ _ l0_3 a0_4 t4 t7 t8 t9 t12 _ (cb_ HR0_0 HB) HC0_0.out (cb_ HR0_3 HB) HC0_3.out A5.out) ?_;rintro e w16 ⟨v5,v10,rfl,ho0,ho1,hb⟩;refine ⟨_,rfl,?_⟩;have HO6:=rlo_ ho0 HB;have HO11:=rlo_ ho1 HB;replace BK1:=kl_ BK1 hb;replace BK2:=kl_ BK2 hb;replace BK3:=kl_ BK3 hb;replace HB:=ss_ HB hb;clear hb ho0 ho1)|((with_reducible refine gd_ 10 ?_);refine x41_ 10 ?_;intro gb13 hg w17 hbox hb;replace HO6:=rb_ HO6 hb;replace HO11:=rb_ HO11 hb;have BK13:=am_ hbox;have GW13:=gg_ hg HB;have GE13:=GW13;replace HB:=ss_ HB hb;have NB1_13:=nla_ hg BK1;have NB13_1:=nga_ hg BK1;replace BK1:=kl_ BK1 hb;have NB2_13:=nla_ hg BK2;have NB13_2:=nga_ hg BK2;replace BK2:=kl_ BK2 hb;have NB3_13:=nla_ hg BK3;have NB13_3:=nga_ hg BK3;replace BK3:=kl_ BK3 hb;clear hb hbox hg;obtain ⟨Ao18,co18,eo18⟩:=Kd.R_slice HO6.out;subst eo18;have hnb19:=NB13_1.out;have hnc19:=NB1_13.out;have hnb20:=NB13_2.out;have hnc20:=NB2_13.out;have hnb21:=NB13_3.out;have hnc21:=NB3_13.out;have hz22:=cz5_ BK13;obtain ⟨Ao23,co23,eo23⟩:=Kd.R_slice HO11.out;subst eo23;have hz24:=cz5_ BK1;have hnb25:=NB2_3.out;have hnc25:=NB3_2.out;have hz26:=cz2_ BK2)|((with_reducible refine gq_ 150 21 ?_);refine gc_ 21 Tryz.func150 (spec_Extend.calls k _ _ l0_0 a0_1 a0_2 _ _ l1 a2_0 a2_1 _ _ l3 t14 t17 t18 t19 _ (Kd.C_below HR0_0.out (bw_ HB)) HC0_0.out (Kd.C_below HR1.out (bw_ HB)) HC1.out (Kd.C_below HR3.out (bw_ HB)) HC3.out A6.out) ?_;rintro e w27 ⟨v15,rfl,ho0,hb⟩;refine ⟨_,rfl,?_⟩;replace HO11:=rbf_ HO11 BK13 hb;have HO16:=am_ (Kd.R_lower (Kd.R_new' ho0 (lf_ HO6 BK13)) (sz_ HB));replace HO6:=ref_ HO6 BK13 ho0 hb;replace BK1:=kp_ BK1 hb;replace BK2:=kp_ BK2 hb;replace BK3:=kp_ BK3 hb;replace BK13:=kp_ BK13 hb;replace HB:=ss_ HB hb;clear hb ho0)|((with_reducible refine gd_ 11 ?_);refine x39_ 11 ?_;intro gb20 hg w28 hbox hb;replace HO6:=rb_ HO6 hb;replace HO11:=rb_ HO11 hb;replace HO16:=rb_ HO16 hb;have BK20:=am_ hbox;have GW20:=gg_ hg HB;have GE20:=GW20;replace HB:=ss_ HB hb;have NB1_20:=nla_ hg BK1;have NB20_1:=nga_ hg BK1;replace BK1:=kl_ BK1 hb;have NB2_20:=nla_ hg BK2;have NB20_2:=nga_ hg BK2;replace BK2:=kl_ BK2 hb;have NB3_20:=nla_ hg BK3;have NB20_3:=nga_ hg BK3;replace BK3:=kl_ BK3 hb;have NB13_20:=nla_ hg BK13;have NB20_13:=nga_ hg BK13;replace BK13:=kl_ BK13 hb;clear hb hbox hg;obtain ⟨Ao29,co29,eo29⟩:=Kd.R_slice HO16.out;subst eo29;have hnb30:=NB20_1.out;have hnc30:=NB1_20.out;have hnb31:=NB20_2.out;have hnc31:=NB2_20.out;have hnb32:=NB20_3.out;have hnc32:=NB3_20.out;have hnb33:=NB20_13.out;have hnc33:=NB13_20.out;have hz34:=cz3_ BK20;have hz35:=cz5_ BK13))
  have n0_:Aside0 (Kd.R Kd.string 9 ((((((w28.setCell ⟨gb20,0,none⟩ (.slice Ao29 t14.length co29)).setCell ⟨gb20,1,none⟩ (.int .i64 t17)).setCell ⟨gb20,2,none⟩ (.string t18)).setCell ⟨gb13,0,none⟩ (.slice Ao29 t14.length co29)).setCell ⟨gb13,1,none⟩ (.int .i64 t17)).setCell ⟨gb13,2,none⟩ (.string t18)) w.heap.size (fun k_=>some k_ ≠ (.slice Ao29 t14.length co29:Value).ownBlock) (.slice Ao18 t4.length co18) t4):=⟨kr_ (Kd.R_mono (Kd.R_far (p:=⟨gb13,2,none⟩) (Kd.R_far (p:=⟨gb13,1,none⟩) (Kd.R_far (p:=⟨gb13,0,none⟩) (Kd.R_far (p:=⟨gb20,2,none⟩) (Kd.R_far (p:=⟨gb20,1,none⟩) (Kd.R_far (p:=⟨gb20,0,none⟩) (Kd.R_types (Kd.R_types HO6.out BK20.out (by decide)) BK13.out (by decide)) (fun _ hk=>hk.1.2) (.slice Ao29 t14.length co29)) (fun _ hk=>hk.1.2) (.int .i64 t17)) (fun _ hk=>hk.1.2) (.string t18)) (fun _ hk=>hk.2) (.slice Ao29 t14.length co29)) (fun _ hk=>hk.2) (.int .i64 t17)) (fun _ hk=>hk.2) (.string t18)) (fun _ hk=>hk.1.1.2))⟩
  have n1_:Aside0 (Kd.R (Kd.int .u8) 5 ((((((w28.setCell ⟨gb20,0,none⟩ (.slice Ao29 t14.length co29)).setCell ⟨gb20,1,none⟩ (.int .i64 t17)).setCell ⟨gb20,2,none⟩ (.string t18)).setCell ⟨gb13,0,none⟩ (.slice Ao29 t14.length co29)).setCell ⟨gb13,1,none⟩ (.int .i64 t17)).setCell ⟨gb13,2,none⟩ (.string t18)) w.heap.size (fun _=>True) (.slice Ao23 t9.length co23) t9):=⟨kfm2_ HO11 BK20 BK13⟩
  have n2_:Aside0 (Kd.R Kd.string 9 ((((((w28.setCell ⟨gb20,0,none⟩ (.slice Ao29 t14.length co29)).setCell ⟨gb20,1,none⟩ (.int .i64 t17)).setCell ⟨gb20,2,none⟩ (.string t18)).setCell ⟨gb13,0,none⟩ (.slice Ao29 t14.length co29)).setCell ⟨gb13,1,none⟩ (.int .i64 t17)).setCell ⟨gb13,2,none⟩ (.string t18)) w.heap.size (fun k_=>some k_ ≠ (.slice Ao18 t4.length co18:Value).ownBlock) (.slice Ao29 t14.length co29) t14):=⟨kr_ (Kd.R_mono (Kd.R_far (p:=⟨gb13,2,none⟩) (Kd.R_far (p:=⟨gb13,1,none⟩) (Kd.R_far (p:=⟨gb13,0,none⟩) (Kd.R_far (p:=⟨gb20,2,none⟩) (Kd.R_far (p:=⟨gb20,1,none⟩) (Kd.R_far (p:=⟨gb20,0,none⟩) (Kd.R_types (Kd.R_types HO16.out BK20.out (by decide)) BK13.out (by decide)) (fun _ hk=>hk.1.2) (.slice Ao29 t14.length co29)) (fun _ hk=>hk.1.2) (.int .i64 t17)) (fun _ hk=>hk.1.2) (.string t18)) (fun _ hk=>hk.2) (.slice Ao29 t14.length co29)) (fun _ hk=>hk.2) (.int .i64 t17)) (fun _ hk=>hk.2) (.string t18)) (fun _ hk=>hk.1.1.2))⟩
  have n3_:Aside0 (((((((w28.setCell ⟨gb20,0,none⟩ (.slice Ao29 t14.length co29)).setCell ⟨gb20,1,none⟩ (.int .i64 t17)).setCell ⟨gb20,2,none⟩ (.string t18)).setCell ⟨gb13,0,none⟩ (.slice Ao29 t14.length co29)).setCell ⟨gb13,1,none⟩ (.int .i64 t17)).setCell ⟨gb13,2,none⟩ (.string t18)).heap[gb1]?=some (.cells #[.slice A0_0 l0_0.length c0_0,.int .i64 a0_1,.string a0_2,.slice A0_3 l0_3.length c0_3,.int .i64 a0_4] 41 (0,0))):=⟨kq_ BK1⟩
  have n4_:Aside0 (((((((w28.setCell ⟨gb20,0,none⟩ (.slice Ao29 t14.length co29)).setCell ⟨gb20,1,none⟩ (.int .i64 t17)).setCell ⟨gb20,2,none⟩ (.string t18)).setCell ⟨gb13,0,none⟩ (.slice Ao29 t14.length co29)).setCell ⟨gb13,1,none⟩ (.int .i64 t17)).setCell ⟨gb13,2,none⟩ (.string t18)).heap[gb2]?=some (.cells #[.int .i64 a2_0,.string a2_1] 37 (0,0))):=⟨kq_ BK2⟩
  have n5_:Aside0 (((((((w28.setCell ⟨gb20,0,none⟩ (.slice Ao29 t14.length co29)).setCell ⟨gb20,1,none⟩ (.int .i64 t17)).setCell ⟨gb20,2,none⟩ (.string t18)).setCell ⟨gb13,0,none⟩ (.slice Ao29 t14.length co29)).setCell ⟨gb13,1,none⟩ (.int .i64 t17)).setCell ⟨gb13,2,none⟩ (.string t18)).heap[gb3]?=some (.cells #[.slice none 0 0,.int .i64 0,.string (⟨#[]⟩:ByteArray),.slice none 0 0,.int .i64 0] 41 (0,0))):=⟨kq_ BK3⟩
  have n6_:Aside0 (((((((w28.setCell ⟨gb20,0,none⟩ (.slice Ao29 t14.length co29)).setCell ⟨gb20,1,none⟩ (.int .i64 t17)).setCell ⟨gb20,2,none⟩ (.string t18)).setCell ⟨gb13,0,none⟩ (.slice Ao29 t14.length co29)).setCell ⟨gb13,1,none⟩ (.int .i64 t17)).setCell ⟨gb13,2,none⟩ (.string t18)).heap[gb13]?=some (.cells #[.slice Ao29 t14.length co29,.int .i64 t17,.string t18,.slice Ao23 t9.length co23,.int .i64 t12] 41 (0,0))):=⟨kq_ BK13⟩
  have n7_:Aside0 (((((((w28.setCell ⟨gb20,0,none⟩ (.slice Ao29 t14.length co29)).setCell ⟨gb20,1,none⟩ (.int .i64 t17)).setCell ⟨gb20,2,none⟩ (.string t18)).setCell ⟨gb13,0,none⟩ (.slice Ao29 t14.length co29)).setCell ⟨gb13,1,none⟩ (.int .i64 t17)).setCell ⟨gb13,2,none⟩ (.string t18)).heap[gb20]?=some (.cells #[.slice Ao29 t14.length co29,.int .i64 t17,.string t18] 39 (0,0))):=⟨kq_ BK20⟩
  have n8_:Aside0 (Below w.heap.size w ((((((w28.setCell ⟨gb20,0,none⟩ (.slice Ao29 t14.length co29)).setCell ⟨gb20,1,none⟩ (.int .i64 t17)).setCell ⟨gb20,2,none⟩ (.string t18)).setCell ⟨gb13,0,none⟩ (.slice Ao29 t14.length co29)).setCell ⟨gb13,1,none⟩ (.int .i64 t17)).setCell ⟨gb13,2,none⟩ (.string t18))):=⟨bw_ HB⟩
  generalize ((((((w28.setCell ⟨gb20,0,none⟩ (.slice Ao29 t14.length co29)).setCell ⟨gb20,1,none⟩ (.int .i64 t17)).setCell ⟨gb20,2,none⟩ (.string t18)).setCell ⟨gb13,0,none⟩ (.slice Ao29 t14.length co29)).setCell ⟨gb13,1,none⟩ (.int .i64 t17)).setCell ⟨gb13,2,none⟩ (.string t18))=w36 at n0_ n1_ n2_ n3_ n4_ n5_ n6_ n7_ n8_ ⊢
  have HO6:=n0_
  have HO11:=n1_
  have HO16:=n2_
  have BK1:=n3_
  have BK2:=n4_
  have BK3:=n5_
  have BK13:=n6_
  have BK20:=n7_
  have HB:=n8_
  clear n0_ n1_ n2_ n3_ n4_ n5_ n6_ n7_ n8_
  replace HO6:=am_ (Kd.R_drew HO6.out)
  replace HO11:=am_ (Kd.R_drew HO11.out)
  replace HO16:=am_ (Kd.R_drew HO16.out)
  replace BK1:=bd_ BK1
  replace BK2:=bd_ BK2
  replace BK3:=bd_ BK3
  replace BK13:=bd_ BK13
  replace BK20:=bd_ BK20
  replace HB:=hd_ HB
  refine sw_ 8 (fun w'=>w'.cell? ⟨gb13,0,none⟩=some (.slice Ao29 t14.length co29)∧w'.cell? ⟨gb13,1,none⟩=some (.int .i64 t17)∧w'.cell? ⟨gb13,2,none⟩=some (.string t18)∧w'.cell? ⟨gb13,3,none⟩=some (.slice Ao23 t9.length co23)∧w'.cell? ⟨gb13,4,none⟩=some (.int .i64 t12)∧w'.cell? ⟨gb2,0,none⟩=some (.int .i64 a2_0)∧w'.cell? ⟨gb2,1,none⟩=some (.string a2_1)) [7] spec_l12Commit.tab6 spec_l12Commit.bits6 ⟨bc0_ BK13.out,bc1_ BK13.out,bc2_ BK13.out,bc3_ BK13.out,bc4_ BK13.out,bc0_ BK2.out,bc1_ BK2.out⟩ (fun hHeld HT_ HW_=>?_)
  generalize w36.drew=w37 at HO6 HO11 HO16 BK1 BK2 BK3 BK13 BK20 HB hHeld ⊢
  refine pt_ 0 30 1 ?_
  refine pt_ 3 33 9 ?_
  refine tt_ 1 31 11 ?_
  refine tt_ 2 32 15 ?_
  refine oz_ 4 34 8 31 (fun K hK=>?_)
  refine gf_ Tryz.func151 (spec_l12Put.calls k a2_0 a2_1 _ _ l3 t21 _ (cb_ HR3 HB) HC3.out A8.out) ?_
  rintro e w38 ⟨v22,rfl,ho0,hb⟩
  refine ⟨_,rfl,?_⟩
  replace HO6:=rb_ HO6 hb
  replace HO16:=rb_ HO16 hb
  have HO23:=am_ (Kd.R_lower (Kd.R_new' ho0 (lt_ HO11)) (sz_ HB))
  replace HO11:=re_ HO11 ho0 hb
  replace BK1:=kl_ BK1 hb
  replace BK2:=kl_ BK2 hb
  replace BK3:=kl_ BK3 hb
  replace BK13:=kl_ BK13 hb
  replace BK20:=kl_ BK20 hb
  replace HB:=ss_ HB hb
  clear hb ho0
  obtain ⟨Ao40,co40,eo40⟩:=Kd.R_slice HO23.out
  subst eo40
  refine hK.out _ _ ⟨bc0_ BK13.out,bc1_ BK13.out,bc2_ BK13.out,bc3_ BK13.out,bc4_ BK13.out,bc0_ BK2.out,bc1_ BK2.out⟩ (fun hHeld=>?_)
  clear hK K
  refine no_ 34 ?_
  refine oz_ 5 35 8 63 (fun K hK=>?_)
  refine Kd.R_append_rows_step (Kd.int .u8) (w0:=w) w.heap.size (by rfl) (.tmp 31) (.tmp 34) 27 5 (.int .u8 0) 1 rfl Tryz.underlying27 info5 rfl (by decide) (by omega) (.slice Ao23 t9.length co23) t9 t21 _ _ _ (fun k_=>some k_ ≠ (.slice Ao40 t21.length co40:Value).ownBlock) (fun _=>False) rfl rfl ?aO ?aR (fun _ _ h=>h) (fun _ h=>h.elim) ?aF ?aB ?aS ?aL ?_
  (case aR=>repeat (first|exact (Kd.R_reads' HO23.out).2.2|(with_reducible refine Kd.C_alloc ?_ _)|(with_reducible refine Kd.C_drewN ?_ _)|(with_reducible refine Kd.C_drew ?_)))
  (case aB=>exact (bw_ HB))
  (case aF=>exact (fun k_ hk=>Kd.fresh' (lt_ HO23) k_ hk))
  (case aO=>exact (kr_ (Kd.R_mono HO11.out (fun _ hk=>hk.2))))
  (case aS=>exact (sz_ HB))
  (case aL=>have:=LMc9.out;omega)
  intro v25 w39 ho hb hg hat
  rw [← Ny24.out] at ho
  replace BK1:=kg_ BK1 HO11 hg
  replace BK2:=kg_ BK2 HO11 hg
  replace BK3:=kg_ BK3 HO11 hg
  replace HO6:=am_ (Kd.R_over' (kr_ HO6.out) (Kd.R_typed (kr_ HO11.out)) (by decide) hg)
  replace BK13:=kg_ BK13 HO11 hg
  replace HO16:=am_ (Kd.R_over' (kr_ HO16.out) (Kd.R_typed (kr_ HO11.out)) (by decide) hg)
  replace BK20:=kg_ BK20 HO11 hg
  replace HO23:=am_ (Kd.R_after (ok:=(fun _=>True)) (kr_ HO23.out) hg hat)
  replace HB:=am_ hb
  have HO26:=am_ ho
  clear HO11
  clear ho hb hg hat
  obtain ⟨Ao41,co41,eo41⟩:=Kd.R_slice HO26.out
  subst eo41
  refine hK.out _ _ ⟨bc0_ BK13.out,bc1_ BK13.out,bc2_ BK13.out,bc3_ BK13.out,bc4_ BK13.out,bc0_ BK2.out,bc1_ BK2.out⟩ (fun hHeld=>?_)
  clear hK K
  refine no_ 35 ?_
  refine pt_ 6 36 127 ?_
  refine last_ (i:=7) (N:=none) (lz_ 8 255) rfl rfl (one_of HT_.out (by kernel_rfl)) (by decide) (fun K hK=>?_)
  have hs42:=bc3_ BK13.out
  have hfs42:=blk_frozen BK13.out 3
  have hns42_0:=NB1_13.out
  have hns42_1:=NB2_13.out
  have hns42_2:=NB3_13.out
  have hns42_4:=NB20_13.out
  have hms42_0:=NB13_1.out
  have hms42_1:=NB13_2.out
  have hms42_2:=NB13_3.out
  have hms42_4:=NB13_20.out
  refine skip_ (w1:=?_) (by rfl) rfl ?_ ?_
  rotate_left
  ·go_simp
   rfl
  refine hK.out _ _ ?_
  clear hK K
  refine dn_ ?_
  have hz43:=cz5_ BK13
  have hz44:=cz5_ BK3
  try go_wp2
  refine bodyPost_ret (rct_ gb3 41 #[.slice Ao29 t14.length co29,.int .i64 t17,.string t18,.slice Ao41 y24.length co41,.int .i64 t12] BK3 Tryz.underlying41) rfl ?_
  exact ⟨_,_,e2_,kfm2_ HO16 BK13 BK3,kfm2_ HO26 BK13 BK3,bw_ HB⟩
 ·have c7b0:(t19 == 0)=false:=beq_eq_false_iff_ne.mpr c7
  have c7b1:(t19 != 0)=true:=bne_iff_ne.mpr c7
  replace H:=so6_ H;obtain ⟨rfl,rfl,rfl,rfl,rfl,rfl⟩:=H
  go_enter Tryz.func128,Tryz.ntmps128
  go_wp2_with (first|((with_reducible refine gd_ 4 ?_);refine bx_ 4 41 #[.slice A0_0 l0_0.length c0_0,.int .i64 a0_1,.string a0_2,.slice A0_3 l0_3.length c0_3,.int .i64 a0_4] (hx_ HB ?_);clear HB;intro gb1 w45 BK1 GW1 HB;have GE1:=GW1)|((with_reducible refine gd_ 6 ?_);refine bx_ 6 37 #[.int .i64 a2_0,.string a2_1] ?_;intro gb2 hg w46 hbox hb;have BK2:=am_ hbox;have GW2:=gg_ hg HB;have GE2:=GW2;replace HB:=ss_ HB hb;have NB1_2:=nla_ hg BK1;have NB2_1:=nga_ hg BK1;replace BK1:=kl_ BK1 hb;clear hb hbox hg)|((with_reducible refine gd_ 8 ?_);refine x41_ 8 ?_;intro gb3 hg w47 hbox hb;have BK3:=am_ hbox;have GW3:=gg_ hg HB;have GE3:=GW3;replace HB:=ss_ HB hb;have NB1_3:=nla_ hg BK1;have NB3_1:=nga_ hg BK1;replace BK1:=kl_ BK1 hb;have NB2_3:=nla_ hg BK2;have NB3_2:=nga_ hg BK2;replace BK2:=kl_ BK2 hb;clear hb hbox hg;have hnb48:=NB1_2.out;have hnc48:=NB2_1.out;have hnb49:=NB1_3.out;have hnc49:=NB3_1.out;have hz50:=cz5_ BK1)|((with_reducible refine gq_ 93 14 ?_);refine gc_ 14 Tryz.func93 (spec_l12Copy.calls _ _ l0_0 a0_1 a0_2 _ _ l0_3 a0_4 t4 t7 t8 t9 t12 _ (cb_ HR0_0 HB) HC0_0.out (cb_ HR0_3 HB) HC0_3.out A5.out) ?_;rintro e w51 ⟨v5,v10,rfl,ho0,ho1,hb⟩;refine ⟨_,rfl,?_⟩;have HO6:=rlo_ ho0 HB;have HO11:=rlo_ ho1 HB;replace BK1:=kl_ BK1 hb;replace BK2:=kl_ BK2 hb;replace BK3:=kl_ BK3 hb;replace HB:=ss_ HB hb;clear hb ho0 ho1)|((with_reducible refine gd_ 10 ?_);refine x41_ 10 ?_;intro gb13 hg w52 hbox hb;replace HO6:=rb_ HO6 hb;replace HO11:=rb_ HO11 hb;have BK13:=am_ hbox;have GW13:=gg_ hg HB;have GE13:=GW13;replace HB:=ss_ HB hb;have NB1_13:=nla_ hg BK1;have NB13_1:=nga_ hg BK1;replace BK1:=kl_ BK1 hb;have NB2_13:=nla_ hg BK2;have NB13_2:=nga_ hg BK2;replace BK2:=kl_ BK2 hb;have NB3_13:=nla_ hg BK3;have NB13_3:=nga_ hg BK3;replace BK3:=kl_ BK3 hb;clear hb hbox hg;obtain ⟨Ao53,co53,eo53⟩:=Kd.R_slice HO6.out;subst eo53;have hnb54:=NB13_1.out;have hnc54:=NB1_13.out;have hnb55:=NB13_2.out;have hnc55:=NB2_13.out;have hnb56:=NB13_3.out;have hnc56:=NB3_13.out;have hz57:=cz5_ BK13;obtain ⟨Ao58,co58,eo58⟩:=Kd.R_slice HO11.out;subst eo58;have hz59:=cz5_ BK1;have hnb60:=NB2_3.out;have hnc60:=NB3_2.out;have hz61:=cz2_ BK2)|((with_reducible refine gq_ 150 21 ?_);refine gc_ 21 Tryz.func150 (spec_Extend.calls k _ _ l0_0 a0_1 a0_2 _ _ l1 a2_0 a2_1 _ _ l3 t14 t17 t18 t19 _ (Kd.C_below HR0_0.out (bw_ HB)) HC0_0.out (Kd.C_below HR1.out (bw_ HB)) HC1.out (Kd.C_below HR3.out (bw_ HB)) HC3.out A6.out) ?_;rintro e w62 ⟨v15,rfl,ho0,hb⟩;refine ⟨_,rfl,?_⟩;replace HO11:=rbf_ HO11 BK13 hb;have HO16:=am_ (Kd.R_lower (Kd.R_new' ho0 (lf_ HO6 BK13)) (sz_ HB));replace HO6:=ref_ HO6 BK13 ho0 hb;replace BK1:=kp_ BK1 hb;replace BK2:=kp_ BK2 hb;replace BK3:=kp_ BK3 hb;replace BK13:=kp_ BK13 hb;replace HB:=ss_ HB hb;clear hb ho0)|((with_reducible refine gd_ 11 ?_);refine x39_ 11 ?_;intro gb20 hg w63 hbox hb;replace HO6:=rb_ HO6 hb;replace HO11:=rb_ HO11 hb;replace HO16:=rb_ HO16 hb;have BK20:=am_ hbox;have GW20:=gg_ hg HB;have GE20:=GW20;replace HB:=ss_ HB hb;have NB1_20:=nla_ hg BK1;have NB20_1:=nga_ hg BK1;replace BK1:=kl_ BK1 hb;have NB2_20:=nla_ hg BK2;have NB20_2:=nga_ hg BK2;replace BK2:=kl_ BK2 hb;have NB3_20:=nla_ hg BK3;have NB20_3:=nga_ hg BK3;replace BK3:=kl_ BK3 hb;have NB13_20:=nla_ hg BK13;have NB20_13:=nga_ hg BK13;replace BK13:=kl_ BK13 hb;clear hb hbox hg;obtain ⟨Ao64,co64,eo64⟩:=Kd.R_slice HO16.out;subst eo64;have hnb65:=NB20_1.out;have hnc65:=NB1_20.out;have hnb66:=NB20_2.out;have hnc66:=NB2_20.out;have hnb67:=NB20_3.out;have hnc67:=NB3_20.out;have hnb68:=NB20_13.out;have hnc68:=NB13_20.out;have hz69:=cz3_ BK20;have hz70:=cz5_ BK13;have hz71:=cz5_ BK3))
  refine bodyPost_ret (rct_ gb3 41 #[.slice Ao53 t4.length co53,.int .i64 t7,.string t8,.slice Ao58 t9.length co58,.int .i64 t12] BK3 Tryz.underlying41) rfl ?_
  exact ⟨_,_,e2_,kfm2_ HO6 BK20 BK3,kfm2_ HO11 BK20 BK3,bw_ HB⟩
def spec_OpenStore.l0:Nat->List S37->List Int->Int->Int->List ByteArray->Int->ByteArray->List Int->Int->Option (List ByteArray × Int × ByteArray × List Int × Int × Int)
 | 0,_,_,_,_,_,_,_,_,_=>none
 | k+1,t,b,cnt,at_,l,n,s,m,u=>if at_ < (b.length:Int) then ((spec_GetCommit.f k b at_).bind fun g=>(if g.2.2.2.2=true then ((spec_l12Commit.f k l n s m u t g.1 g.2.1 g.2.2.1).bind fun r=>(if r.2.2.2.2.2=0 then (spec_OpenStore.l0 k t b (wrap64 (cnt+1)) g.2.2.2.1 r.1 r.2.1 r.2.2.1 r.2.2.2.1 r.2.2.2.2.1) else (some (l,n,s,m,u,cnt)))) else (some (l,n,s,m,u,cnt)))) else (some (l,n,s,m,u,cnt))
def spec_OpenStore.f (k:Nat) (t:List S37) (b:List Int):Option (List ByteArray × Int × ByteArray × List Int × Int × Int) :=
 (spec_StoreNew.f k).bind fun q=>((spec_OpenStore.l0 k t (if (b.length:Int) > 60000 then b.take (60000:Int).toNat else b) 0 0 q.1 q.2.1 q.2.2.1 q.2.2.2.1 q.2.2.2.2).bind fun r=>some (r.1,r.2.1,r.2.2.1,r.2.2.2.1,(r.2.2.2.1.length:Int),r.2.2.2.2.2))
theorem spec_OpenStore.calls (k:Nat) (A0:Option Addr) (c0:Nat) (t:List S37) (A1:Option Addr) (c1:Nat) (b:List Int) (r1:List ByteArray) (r2:Int) (r3:ByteArray) (r4:List Int) (r5 r6:Int) (w:World)
  (hr0:Kd.C k37 w A0 t.length t) (hc0:t.length≤c0) (hr1:Kd.C (Kd.int .u8) w A1 b.length b) (hc1:b.length≤c1) (h:spec_OpenStore.f k t b=some (r1,r2,r3,r4,r5,r6)) :
  Calls Tryz.prog 94 #[.slice A0 t.length c0,.slice A1 b.length c1] w fun e w'=>∃ v0_ v3_:Value,e = .returned (.tuple #[.agg #[v0_,.int .i64 r2,.string r3,v3_,.int .i64 r5],.int .i64 r6])∧Kd.R Kd.string 9 w' w.heap.size (fun _=>True) v0_ r1∧Kd.R (Kd.int .u8) 5 w' w.heap.size (fun _=>True) v3_ r4∧Below w.heap.size w w':=by
 have hu37:=Tryz.underlying41
 have hu28:=Tryz.underlying37
 have HR0:=am_ hr0
 have HC0:=am_ hc0
 have HR1:=am_ hr1
 have HC1:=am_ hc1
 have HB:=h0_ w
 unfold spec_OpenStore.f at h
 replace h:=bi_ h;obtain ⟨⟨q1,q2,q3,q4,q5⟩,AN,h⟩:=h
 dsimp only at h
 replace h:=bi_ h;obtain ⟨⟨y1,y2,y3,y4,y5,y6⟩,AL,h⟩:=h
 dsimp only at h
 replace h:=so6_ h;obtain ⟨rfl,rfl,rfl,rfl,rfl,rfl⟩:=h
 clear hr0 hc0 hr1 hc1
 go_enter Tryz.func94,Tryz.ntmps94
 go_upto_if 18 with (first|((with_reducible refine gd_ 4 ?_);refine x41_ 4 ?_;intro g4 hg w1 hbox hb;have B4:=am_ hbox;have G4:=gg_ hg HB;replace HB:=ss_ HB hb;clear hb hbox hg)|((with_reducible refine gq_ 126 15 ?_);refine gc_ 15 Tryz.func126 (spec_StoreNew.calls k q1 q2 q3 q4 q5 _ AN.out) ?_;rintro e w2 ⟨v0,v3,rfl,ho,hp,hb⟩;refine ⟨_,rfl,?_⟩;have HO:=rlo_ ho HB;have HP:=rlo_ hp HB;replace HB:=ss_ HB hb;replace B4:=kl_ B4 hb;clear hb ho hp;obtain ⟨Ao,co,eo⟩:=Kd.R_slice HO.out;subst eo;obtain ⟨Ap,cp,ep⟩:=Kd.R_slice HP.out;subst ep)|((with_reducible refine gd_ 6 ?_);refine x41_ 6 ?_;intro g6 hg w3 hbox hb;have B6:=am_ hbox;have G6:=gg_ hg HB;have N46:=nla_ hg B4;replace HB:=ss_ HB hb;replace B4:=kl_ B4 hb;replace HO:=rb_ HO hb;replace HP:=rb_ HP hb;clear hb hbox hg;have hz6:=cz5_ B6))
 (try simp only [Act.put,List.setIfInBounds_toArray,List.set_cons_zero,List.set_cons_succ])
 go_cut [1] (fun v1 wc=>∃ (b':List Int),v1 = .slice A1 b'.length c1∧Aside0 (Kd.C (Kd.int .u8) w A1 b'.length b')∧Aside0 (b'.length≤c1)∧Aside0 (spec_OpenStore.l0 k t b' 0 0 q1 q2 q3 q4 q5=some (y1,y2,y3,y4,y5,y6))∧Aside0 (Kd.R Kd.string 9 wc w.heap.size (fun _=>True) (.slice Ao q1.length co) q1)∧Aside0 (Kd.R (Kd.int .u8) 5 wc w.heap.size (fun _=>True) (.slice Ap q4.length cp) q4)∧Aside0 (wc.heap[g6]?=some (.cells #[.slice Ao q1.length co,.int .i64 q2,.string q3,.slice Ap q4.length cp,.int .i64 q5] 41 (0,0)))∧Aside0 (wc.heap[g4]?=some (.cells #[.slice none 0 0,.int .i64 0,.string (⟨#[]⟩:ByteArray),.slice none 0 0,.int .i64 0] 41 (0,0)))∧Aside0 (Below w.heap.size w wc))
 case first =>
  by_cases d0:(b.length:Int) > 60000
  ·have d0b:decide (60000 < (b.length:Int))=true:=decide_eq_true d0
   have d0c:decide (60000 < b.length)=true:=decide_eq_true (by omega)
   have AL2:=AL.out
   rw [if_pos d0] at AL2
   obtain ⟨i0,hi0,_,hsz0,_⟩:=info_parts info5
   obtain ⟨hcut,hA,hC⟩:=print_take_of (P:=Tryz.prog) (Value.int .u8) 0 27 5 .i64 Tryz.underlying27 hi0 hsz0 A1 c1 b 60000 (by omega) (by omega) HC1.out
   have HRb:=am_ (Kd.C_of_reads (h1:=fun _=>rfl) (hA _ (Kd.reads_of_C HR1.out)))
   have HCb:=am_ hC
   have AL3:=am_ AL2
   clear hA hC hi0 hsz0 d0 AL AL2
   generalize b.take (60000:Int).toNat=b' at *
   (first | rw [d0b]|(simp only [i64_w,i32_w];rw [d0b])|rw [d0c]|skip)
   go_wp2
   go_meet
   case rel => exact ⟨b',e1_,HRb,HCb,AL3,⟨kf_ HO B6⟩,⟨kf_ HP B6⟩,⟨kq_ B6⟩,⟨kq_ B4⟩,⟨bw_ HB⟩⟩
  ·have d0b:decide (60000 < (b.length:Int))=false:=decide_eq_false d0
   have d0c:decide (60000 < b.length)=false:=decide_eq_false (by omega)
   have AL2:=AL.out
   rw [if_neg d0] at AL2
   have AL3:=am_ AL2
   clear d0 AL AL2
   (first | rw [d0b]|(simp only [i64_w,i32_w];rw [d0b])|rw [d0c]|skip)
   go_wp2
   go_meet
   case rel => exact ⟨b,e1_,HR1,HC1,AL3,⟨kf_ HO B6⟩,⟨kf_ HP B6⟩,⟨kq_ B6⟩,⟨kq_ B4⟩,⟨bw_ HB⟩⟩
 case rest =>
  clear AL HO HP B6 B4 HB hz6
  obtain ⟨b',rfl,HRb,HCb,AL,HO,HP,B6,B4,HB⟩:=hcut
  go_wp2
  go_loopg [7,8] k (fun kq v7 v8 w'=>∃ (cnt at_:Int) (l:List ByteArray) (n:Int) (s:ByteArray) (m:List Int) (u:Int) (Ao:Option Addr) (co:Nat) (Ap:Option Addr) (cp:Nat),v7 = .int .i64 cnt∧v8 = .int .i64 at_∧Aside0 (spec_OpenStore.l0 kq t b' cnt at_ l n s m u=some (y1,y2,y3,y4,y5,y6))∧Aside0 (kq≤k)∧Aside0 (Kd.R Kd.string 9 w' w.heap.size (fun _=>True) (.slice Ao l.length co) l)∧Aside0 (Kd.R (Kd.int .u8) 5 w' w.heap.size (fun _=>True) (.slice Ap m.length cp) m)∧Aside0 (w'.heap[g6]?=some (.cells #[.slice Ao l.length co,.int .i64 n,.string s,.slice Ap m.length cp,.int .i64 u] 41 (0,0)))∧Aside0 (w'.heap[g4]?=some (.cells #[.slice none 0 0,.int .i64 0,.string (⟨#[]⟩:ByteArray),.slice none 0 0,.int .i64 0] 41 (0,0)))∧Aside0 (Below w.heap.size w w'))
  case atStart => exact ⟨0,0,q1,q2,q3,q4,q5,Ao,co,Ap,cp,e1_,e1_,AL,⟨Nat.le_refl _⟩,HO,HP,B6,B4,HB⟩
  case round =>
   clear AL HO HP B6 B4 HB
   obtain ⟨cnt,at_,l,n,s,m,u,Ao,co,Ap,cp,rfl,rfl,HA,HK1,HO,HP,B6,B4,HB⟩:=hrel
   cases gk with
   | zero=>exact absurd HA.out (by simp [spec_OpenStore.l0])
   | succ k1 =>
    have H:=HA.out
    clear HA
    simp only [spec_OpenStore.l0] at H
    replace H:=it_ H;obtain ⟨d1,H⟩|⟨d1,H⟩:=H
    ·have d1b:decide (at_ < (b'.length:Int))=true:=decide_eq_true d1
     clear d1
     replace H:=bi_ H;obtain ⟨⟨g1,g2,g3,gn,g5⟩,AG,H⟩:=H
     dsimp only at H
     replace H:=itb_ H;obtain ⟨rfl,H⟩|⟨rfl,H⟩:=H
     ·replace H:=bi_ H;obtain ⟨⟨z1,z2,z3,z4,z5,z6⟩,AM,H⟩:=H
      dsimp only at H
      replace H:=it_ H;obtain ⟨d2,H⟩|⟨d2,H⟩:=H
      ·have d2b:(z6 == 0)=true:=beq_iff_eq.mpr d2
       have d2c:(z6 != 0)=false:=bne_eq_false_iff_eq.mpr d2
       clear d2
       have H':=am_ H
       clear H
       go_wp2_with (first|((with_reducible refine gq_ 127 30 ?_);refine gc_ 30 Tryz.func127 (spec_GetCommit.calls k1 _ _ b' at_ g1 g2 g3 gn true _ (cb_ HRb HB) HCb.out AG.out) ?_;rintro e w5 ⟨v,rfl,ho,hb⟩;refine ⟨_,rfl,?_⟩;have HX:=rlo_ ho HB;replace HO:=rb_ HO hb;replace HP:=rb_ HP hb;replace B4:=kl_ B4 hb;replace B6:=kl_ B6 hb;replace HB:=ss_ HB hb;clear hb ho;obtain ⟨Ax,cx,ex⟩:=Kd.R_slice HX.out;subst ex)|((with_reducible refine gd_ 9 ?_);refine x37_ 9 ?_;intro g9 hg w6 hbox hb;have B9:=am_ hbox;have G9:=gg_ hg HB;have N69:=nla_ hg B6;have N49:=nla_ hg B4;replace HB:=ss_ HB hb;replace B4:=kl_ B4 hb;replace B6:=kl_ B6 hb;replace HO:=rb_ HO hb;replace HP:=rb_ HP hb;replace HX:=rb_ HX hb;clear hb hbox hg;have hz9:=cz2_ B9;have hz6:=cz5_ B6;have hn1:=N69.out;have hn2:=N69.out.symm)|((with_reducible refine gq_ 128 42 ?_);refine gc_ 42 Tryz.func128 (spec_l12Commit.calls k1 _ _ l n s _ _ m u _ _ t g1 g2 _ _ g3 z1 z2 z3 z4 z5 z6 _ (chf_ HO B9) (cl_ HO) (chf_ HP B9) (cl_ HP) (Kd.C_below HR0.out (bw_ HB)) HC0.out (chf_ HX B9) (cl_ HX) AM.out) ?_;rintro e w7 ⟨v1,v2,rfl,ho,hp,hb⟩;refine ⟨_,rfl,?_⟩;have HV:=rlo_ ho HB;have HU:=rlo_ hp HB;replace HO:=rbf_ HO B9 hb;replace HP:=rbf_ HP B9 hb;replace B4:=kp_ B4 hb;replace B6:=kp_ B6 hb;replace HB:=ss_ HB hb;clear hb ho hp hz9 hz6 hn1 hn2 B9 N69 N49 HX;obtain ⟨Av,cv,ev⟩:=Kd.R_slice HV.out;subst ev;obtain ⟨Au,cu,eu⟩:=Kd.R_slice HU.out;subst eu)|((with_reducible refine gd_ 13 ?_);refine x41_ 13 ?_;intro g13 hg w8 hbox hb;have B13:=am_ hbox;have G13:=gg_ hg HB;have N6:=nla_ hg B6;have N4:=nla_ hg B4;replace HB:=ss_ HB hb;replace B4:=kl_ B4 hb;replace B6:=kl_ B6 hb;replace HV:=rb_ HV hb;replace HU:=rb_ HU hb;replace HO:=rb_ HO hb;replace HP:=rb_ HP hb;clear hb hbox hg;have hz13:=cz5_ B13;have hz6:=cz5_ B6;have hz4:=cz5_ B4;have hn1:=N6.out;have hn2:=N6.out.symm;have hn3:=N4.out;have hn4:=N4.out.symm;have hn5:=N46.out;have hn6:=N46.out.symm))
       go_roundg k1
       case measure => have:=HK1.out;omega
       case rel => exact ⟨wrap64 (cnt+1),gn,z1,z2,z3,z4,z5,Av,cv,Au,cu,e1_,e1_,H',⟨by have:=HK1.out;omega⟩,⟨kf2_ HV B13 B6⟩,⟨kf2_ HU B13 B6⟩,⟨kq_ B6⟩,⟨kq_ B4⟩,⟨bw_ HB⟩⟩
      ·have d2b:(z6 == 0)=false:=beq_eq_false_iff_ne.mpr d2
       have d2c:(z6 != 0)=true:=bne_iff_ne.mpr d2
       clear d2
       replace H:=so6_ H;obtain ⟨rfl,rfl,rfl,rfl,rfl,rfl⟩:=H
       go_wp2_with (first|((with_reducible refine gq_ 127 30 ?_);refine gc_ 30 Tryz.func127 (spec_GetCommit.calls k1 _ _ b' at_ g1 g2 g3 gn true _ (cb_ HRb HB) HCb.out AG.out) ?_;rintro e w5 ⟨v,rfl,ho,hb⟩;refine ⟨_,rfl,?_⟩;have HX:=rlo_ ho HB;replace HO:=rb_ HO hb;replace HP:=rb_ HP hb;replace B4:=kl_ B4 hb;replace B6:=kl_ B6 hb;replace HB:=ss_ HB hb;clear hb ho;obtain ⟨Ax,cx,ex⟩:=Kd.R_slice HX.out;subst ex)|((with_reducible refine gd_ 9 ?_);refine x37_ 9 ?_;intro g9 hg w6 hbox hb;have B9:=am_ hbox;have G9:=gg_ hg HB;have N69:=nla_ hg B6;have N49:=nla_ hg B4;replace HB:=ss_ HB hb;replace B4:=kl_ B4 hb;replace B6:=kl_ B6 hb;replace HO:=rb_ HO hb;replace HP:=rb_ HP hb;replace HX:=rb_ HX hb;clear hb hbox hg;have hz9:=cz2_ B9;have hz6:=cz5_ B6;have hn1:=N69.out;have hn2:=N69.out.symm)|((with_reducible refine gq_ 128 42 ?_);refine gc_ 42 Tryz.func128 (spec_l12Commit.calls k1 _ _ l n s _ _ m u _ _ t g1 g2 _ _ g3 z1 z2 z3 z4 z5 z6 _ (chf_ HO B9) (cl_ HO) (chf_ HP B9) (cl_ HP) (Kd.C_below HR0.out (bw_ HB)) HC0.out (chf_ HX B9) (cl_ HX) AM.out) ?_;rintro e w7 ⟨v1,v2,rfl,ho,hp,hb⟩;refine ⟨_,rfl,?_⟩;have HV:=rlo_ ho HB;have HU:=rlo_ hp HB;replace HO:=rbf_ HO B9 hb;replace HP:=rbf_ HP B9 hb;replace B4:=kp_ B4 hb;replace B6:=kp_ B6 hb;replace HB:=ss_ HB hb;clear hb ho hp hz9 hz6 hn1 hn2 B9 N69 N49 HX;obtain ⟨Av,cv,ev⟩:=Kd.R_slice HV.out;subst ev;obtain ⟨Au,cu,eu⟩:=Kd.R_slice HU.out;subst eu)|((with_reducible refine gd_ 13 ?_);refine x41_ 13 ?_;intro g13 hg w8 hbox hb;have B13:=am_ hbox;have G13:=gg_ hg HB;have N6:=nla_ hg B6;have N4:=nla_ hg B4;replace HB:=ss_ HB hb;replace B4:=kl_ B4 hb;replace B6:=kl_ B6 hb;replace HV:=rb_ HV hb;replace HU:=rb_ HU hb;replace HO:=rb_ HO hb;replace HP:=rb_ HP hb;clear hb hbox hg;have hz13:=cz5_ B13;have hz6:=cz5_ B6;have hz4:=cz5_ B4;have hn1:=N6.out;have hn2:=N6.out.symm;have hn3:=N4.out;have hn4:=N4.out.symm;have hn5:=N46.out;have hn6:=N46.out.symm))
       refine bodyPost_ret (rct_ g4 41 #[.slice Ao l.length co,.int .i64 n,.string s,.slice Ap m.length cp,.int .i64 (m.length:Int)] B4 Tryz.underlying41) rfl ?_
       exact ⟨_,_,rfl,kf3_ HO B13 B6 B4,kf3_ HP B13 B6 B4,bw_ HB⟩
     ·replace H:=so6_ H;obtain ⟨rfl,rfl,rfl,rfl,rfl,rfl⟩:=H
      go_wp2_with (first|((with_reducible refine gq_ 127 30 ?_);refine gc_ 30 Tryz.func127 (spec_GetCommit.calls k1 _ _ b' at_ g1 g2 g3 gn false _ (cb_ HRb HB) HCb.out AG.out) ?_;rintro e w5 ⟨v,rfl,ho,hb⟩;refine ⟨_,rfl,?_⟩;have HX:=rlo_ ho HB;replace HO:=rb_ HO hb;replace HP:=rb_ HP hb;replace B4:=kl_ B4 hb;replace B6:=kl_ B6 hb;replace HB:=ss_ HB hb;clear hb ho;obtain ⟨Ax,cx,ex⟩:=Kd.R_slice HX.out;subst ex)|((with_reducible refine gd_ 9 ?_);refine x37_ 9 ?_;intro g9 hg w6 hbox hb;have B9:=am_ hbox;have G9:=gg_ hg HB;have N69:=nla_ hg B6;have N49:=nla_ hg B4;replace HB:=ss_ HB hb;replace B4:=kl_ B4 hb;replace B6:=kl_ B6 hb;replace HO:=rb_ HO hb;replace HP:=rb_ HP hb;replace HX:=rb_ HX hb;clear hb hbox hg;have hz9:=cz2_ B9;have hz6:=cz5_ B6;have hn1:=N69.out;have hn2:=N69.out.symm;have hz4:=cz5_ B4;have hn3:=N49.out;have hn4:=N49.out.symm;have hn5:=N46.out;have hn6:=N46.out.symm))
      refine bodyPost_ret (rct_ g4 41 #[.slice Ao l.length co,.int .i64 n,.string s,.slice Ap m.length cp,.int .i64 (m.length:Int)] B4 Tryz.underlying41) rfl ?_
      exact ⟨_,_,rfl,kf3_ HO B9 B6 B4,kf3_ HP B9 B6 B4,bw_ HB⟩
    ·have d1b:decide (at_ < (b'.length:Int))=false:=decide_eq_false d1
     clear d1
     replace H:=so6_ H;obtain ⟨rfl,rfl,rfl,rfl,rfl,rfl⟩:=H
     have hz6:=cz5_ B6
     have hz4:=cz5_ B4
     have hn5:=N46.out
     have hn6:=N46.out.symm
     go_wp2
     refine bodyPost_ret (rct_ g4 41 #[.slice Ao l.length co,.int .i64 n,.string s,.slice Ap m.length cp,.int .i64 (m.length:Int)] B4 Tryz.underlying41) rfl ?_
     exact ⟨_,_,rfl,kf2_ HO B6 B4,kf2_ HP B6 B4,bw_ HB⟩
def impl_FallStore.f (l0_0:List ByteArray) (a0_1:Int) (a0_2:ByteArray) (l0_3:List Int) (a0_4:Int) (a1:Int):Option (List Int):=if 0≤(wrap64 ((mx 0 (mn a0_4 (l0_3.length:Int))) + (mn (mx a1 0) (wrap64 ((l0_3.length:Int) - (mx 0 (mn a0_4 (l0_3.length:Int)))))))) then (if (wrap64 ((mx 0 (mn a0_4 (l0_3.length:Int))) + (mn (mx a1 0) (wrap64 ((l0_3.length:Int) - (mx 0 (mn a0_4 (l0_3.length:Int))))))))≤(l0_3.length:Int) then ((slices_Clone_byte_byte.f (l0_3.take ((wrap64 ((mx 0 (mn a0_4 (l0_3.length:Int))) + (mn (mx a1 0) (wrap64 ((l0_3.length:Int) - (mx 0 (mn a0_4 (l0_3.length:Int)))))))):Int).toNat)).bind fun t3=>(some t3)) else (none)) else (none)
theorem impl_FallStore.calls (A0_0:Option Addr) (c0_0:Nat) (l0_0:List ByteArray) (a0_1:Int) (a0_2:ByteArray) (A0_3:Option Addr) (c0_3:Nat) (l0_3:List Int) (a0_4:Int) (a1:Int) (r:List Int) (w:World) (hr0_0:Kd.C Kd.string w A0_0 l0_0.length l0_0) (hc0_0:l0_0.length≤c0_0) (hr0_3:Kd.C (Kd.int .u8) w A0_3 l0_3.length l0_3) (hc0_3:l0_3.length≤c0_3) (h:impl_FallStore.f l0_0 a0_1 a0_2 l0_3 a0_4 a1=some r) :
  Calls Tryz.prog 92 #[.agg #[.slice A0_0 l0_0.length c0_0,.int .i64 a0_1,.string a0_2,.slice A0_3 l0_3.length c0_3,.int .i64 a0_4],.int .i64 a1] w fun e w'=>∃ v0_:Value,e = .returned (v0_)∧Kd.R (Kd.int .u8) 5 w' w.heap.size (fun _=>True) v0_ r∧Below w.heap.size w w':=by
 have hu41:=Tryz.underlying41
 have HR0_0:=am_ hr0_0
 have HC0_0:=am_ hc0_0
 clear hr0_0 hc0_0
 have HR0_3:=am_ hr0_3
 have HC0_3:=am_ hc0_3
 clear hr0_3 hc0_3
 have HB:=h0_ w
 have H:(if 0≤(wrap64 ((mx 0 (mn a0_4 (l0_3.length:Int))) + (mn (mx a1 0) (wrap64 ((l0_3.length:Int) - (mx 0 (mn a0_4 (l0_3.length:Int)))))))) then (if (wrap64 ((mx 0 (mn a0_4 (l0_3.length:Int))) + (mn (mx a1 0) (wrap64 ((l0_3.length:Int) - (mx 0 (mn a0_4 (l0_3.length:Int))))))))≤(l0_3.length:Int) then ((slices_Clone_byte_byte.f (l0_3.take ((wrap64 ((mx 0 (mn a0_4 (l0_3.length:Int))) + (mn (mx a1 0) (wrap64 ((l0_3.length:Int) - (mx 0 (mn a0_4 (l0_3.length:Int)))))))):Int).toNat)).bind fun t3=>(some t3)) else (none)) else (none))=some r:=h
 clear h
 generalize hji3:(mn a0_4 (l0_3.length:Int))=ji3 at H
 have hji3_:(if (l0_3.length:Int) < a0_4 then (l0_3.length:Int) else a0_4)=ji3:=hji3
 generalize hji4:(mx 0 (ji3))=ji4 at H
 have hji4_:(if 0 < (ji3) then (ji3) else 0)=ji4:=hji4
 generalize hji5:(mx a1 0)=ji5 at H
 (try (have hji5l:0≤ji5:=by (rw [← hji5];unfold mx;(repeat' split) <;> omega)))
 (try (have hji5m:0≤ji5:=by omega))
 have hji5_:(if a1 < 0 then 0 else a1)=ji5:=hji5
 generalize hji6:(mn (ji5) (wrap64 ((l0_3.length:Int) - (ji4))))=ji6 at H
 have hji6_:(if (wrap64 ((l0_3.length:Int) - (ji4))) < (ji5) then (wrap64 ((l0_3.length:Int) - (ji4))) else (ji5))=ji6:=hji6
 generalize hji7:(wrap64 ((ji4) + (ji6)))=ji7 at H
 have hji7w:(IntKind.i64.wrap ((ji4) + (ji6)))=ji7:=(i64_w _).trans hji7
 replace H:=ip_ H;obtain ⟨c8,H⟩:=H
 have c8b0:=eq_true c8
 have c8b1:=decide_eq_true c8
 clear c8
 replace H:=ip_ H;obtain ⟨c9,H⟩:=H
 have c9b0:=eq_true c9
 have c9b1:=decide_eq_true c9
 clear c9
 replace H:=bi_ H;obtain ⟨t3,A10,H⟩:=H
 obtain rfl:=Option.some.inj H
 go_enter Tryz.func92,Tryz.ntmps92
 go_wp2_with (first|((with_reducible refine gd_ 2 ?_);refine bx_ 2 41 #[.slice A0_0 l0_0.length c0_0,.int .i64 a0_1,.string a0_2,.slice A0_3 l0_3.length c0_3,.int .i64 a0_4] (hx_ HB ?_);clear HB;intro gb1 w11 BK1 GW1 HB;have GE1:=GW1;have hz12:=cz5_ BK1;obtain ⟨i013,hi013,_,hsz13,_⟩:=info_parts info5;obtain ⟨hcut13,hA13,hC13⟩:=print_take_of (P:=Tryz.prog) (Value.int .u8) 0 27 5 .i64 Tryz.underlying27 hi013 hsz13 A0_3 c0_3 l0_3 (ji7) (od_) (od_) HC0_3.out;have HR2:=am_ (Kd.C_of_reads (h1:=fun _=>rfl) (hA13 _ (Kd.reads_of_C HR0_3.out)));have HC2:=am_ hC13;clear hA13 hC13 hi013 hsz13)|((with_reducible refine gk_ 122 ?_);refine gl_ 28 Tryz.func122 #[.slice A0_3 (l0_3.take ((ji7):Int).toNat).length c0_3] ?_ (hargs:=(by (try simp only [List.map_toArray,List.map_cons,List.map_nil]);first|done|(rw [show (l0_3.take ((ji7):Int).toNat).length=(ji7).toNat from (by rw [List.length_take];have h_:((ji7):Int)≤(l0_3.length:Int):=od_;omega)] <;> rfl)|(simp only [hji7];rfl)|rfl|(simp only [List.length_drop,List.length_take];rfl)));(with_reducible refine (slices_Clone_byte_byte.calls _ _ (l0_3.take ((ji7):Int).toNat) t3 _ ?side1 ?side2 A10.out).mono ?_);(case side1=>exact cb_ HR2 HB);(case side2=>exact HC2.out);rintro e w14 ⟨v4,rfl,ho0,hb⟩;refine ⟨_,rfl,?_⟩;have HO5:=rlo_ ho0 HB;replace BK1:=kl_ BK1 hb;replace HB:=ss_ HB hb;clear hb ho0))
 go_ret
 exact ⟨_,by first|rfl|(simp [errW_none,errW_some] <;> rfl)|(simp only [← hji3,← hji4,← hji5,← hji6,← hji7];first|rfl|(simp [errW_none,errW_some] <;> rfl))|(simp [*,errW_none,errW_some] <;> rfl),kr_ HO5.out,bw_ HB⟩
mutual
def spec_FallStore.j0:Nat->Int->Int->List ByteArray->Int->ByteArray->List Int->Int->Option (List Int)
 | 0,_,_,_,_,_,_,_=>none
 | k+1,x1,x5,x2000,x2001,x2002,x2003,x2004=>if x5 > (x2003.length:Int) then (spec_FallStore.j1 k x1 (x2003.length:Int) x2000 x2001 x2002 x2003 x2004) else (spec_FallStore.j1 k x1 x5 x2000 x2001 x2002 x2003 x2004)
def spec_FallStore.j1:Nat->Int->Int->List ByteArray->Int->ByteArray->List Int->Int->Option (List Int)
 | 0,_,_,_,_,_,_,_=>none
 | k+1,x1,x5,x2000,x2001,x2002,x2003,x2004=>if x1 > 0 then (if x1 > (wrap64 ((x2003.length:Int) - x5)) then ((some (([]:List Int):List Int)).bind fun y602=>(if 0≤(wrap64 (x5+(wrap64 ((x2003.length:Int) - x5)))) then (if (wrap64 (x5+(wrap64 ((x2003.length:Int) - x5))))≤(x2003.length:Int) then (if y602.length+(x2003.take ((wrap64 (x5+(wrap64 ((x2003.length:Int) - x5)))):Int).toNat).length < 140737488355328 then (some (y602 ++ (x2003.take ((wrap64 (x5+(wrap64 ((x2003.length:Int) - x5)))):Int).toNat))) else (none)) else (none)) else (none))) else ((some (([]:List Int):List Int)).bind fun y9=>(if 0≤(wrap64 (x5+x1)) then (if (wrap64 (x5+x1))≤(x2003.length:Int) then (if y9.length+(x2003.take ((wrap64 (x5+x1)):Int).toNat).length < 140737488355328 then (some (y9 ++ (x2003.take ((wrap64 (x5+x1)):Int).toNat))) else (none)) else (none)) else (none)))) else ((some (([]:List Int):List Int)).bind fun y16=>(if 0≤x5 then (if x5≤(x2003.length:Int) then (if y16.length+(x2003.take (x5:Int).toNat).length < 140737488355328 then (some (y16 ++ (x2003.take (x5:Int).toNat))) else (none)) else (none)) else (none)))
end
def spec_FallStore.f (k:Nat) (l0_0:List ByteArray) (a0_1:Int) (a0_2:ByteArray) (l0_3:List Int) (a0_4:Int) (a1:Int):Option (List Int):=if a0_4 < 0 then (spec_FallStore.j0 k a1 0 l0_0 a0_1 a0_2 l0_3 a0_4) else (spec_FallStore.j0 k a1 a0_4 l0_0 a0_1 a0_2 l0_3 a0_4)
theorem spec_FallStore.calls (k:Nat) (A0_0:Option Addr) (c0_0:Nat) (l0_0:List ByteArray) (a0_1:Int) (a0_2:ByteArray) (A0_3:Option Addr) (c0_3:Nat) (l0_3:List Int) (a0_4:Int) (a1:Int) (r:List Int) (w:World) (hr0_0:Kd.C Kd.string w A0_0 l0_0.length l0_0) (hc0_0:l0_0.length≤c0_0) (hr0_3:Kd.C (Kd.int .u8) w A0_3 l0_3.length l0_3) (hc0_3:l0_3.length≤c0_3) (h:spec_FallStore.f k l0_0 a0_1 a0_2 l0_3 a0_4 a1=some r) :
  Calls Tryz.prog 95 #[.agg #[.slice A0_0 l0_0.length c0_0,.int .i64 a0_1,.string a0_2,.slice A0_3 l0_3.length c0_3,.int .i64 a0_4],.int .i64 a1] w fun e w'=>∃ v0_:Value,e = .returned (v0_)∧Kd.R (Kd.int .u8) 5 w' w.heap.size (fun _=>True) v0_ r∧Below w.heap.size w w':=by
 have hu41:=Tryz.underlying41
 have HR0_0:=am_ hr0_0
 have HC0_0:=am_ hc0_0
 clear hr0_0 hc0_0
 have HR0_3:=am_ hr0_3
 have HC0_3:=am_ hc0_3
 clear hr0_3 hc0_3
 have HB:=h0_ w
 have H:(if a0_4 < 0 then (spec_FallStore.j0 k a1 0 l0_0 a0_1 a0_2 l0_3 a0_4) else (spec_FallStore.j0 k a1 a0_4 l0_0 a0_1 a0_2 l0_3 a0_4))=some r:=h
 clear h
 have HC3:=am_ H
 clear H
 go_enter Tryz.func95,Tryz.ntmps95
 go_upto_if 9 with (first|((with_reducible refine gd_ 2 ?_);refine bx_ 2 41 #[.slice A0_0 l0_0.length c0_0,.int .i64 a0_1,.string a0_2,.slice A0_3 l0_3.length c0_3,.int .i64 a0_4] (hx_ HB ?_);clear HB;intro gb1 w4 BK1 GW1 HB;have GE1:=GW1;have hz5:=cz5_ BK1))
 (try simp only [Act.put,List.setIfInBounds_toArray,List.set_cons_zero,List.set_cons_succ])
 go_cut [5] (fun v5 wc=>∃ (kq:Nat) (x5_2:Int),v5 = .int .i64 x5_2∧Aside0 (spec_FallStore.j0 kq a1 x5_2 l0_0 a0_1 a0_2 l0_3 a0_4=some r)∧Aside0 (kq≤k)∧Aside0 (wc.heap[gb1]?=some (.cells #[(.slice A0_0 l0_0.length c0_0),.int .i64 a0_1,.string a0_2,(.slice A0_3 l0_3.length c0_3),.int .i64 a0_4] 41 (0,0)))∧Aside0 (Below w.heap.size w wc))
 case first =>
  have H:=HC3.out
  clear HC3
  replace H:=itd_ H;obtain ⟨c6b0,H⟩|⟨c6b0,H⟩:=H
  ·(first | rw [c6b0]|(simp only [i64_w,i32_w];rw [c6b0])|skip)
   have H':=am_ H
   clear H
   go_wp2
   go_meet
   case rel => exact ⟨_,(0),e1_,H',⟨le_⟩,⟨kb_ BK1.out⟩,⟨bw_ HB⟩⟩
  ·(first | rw [c6b0]|(simp only [i64_w,i32_w];rw [c6b0])|skip)
   have H':=am_ H
   clear H
   go_wp2
   go_meet
   case rel => exact ⟨_,(a0_4),e1_,H',⟨le_⟩,⟨kb_ BK1.out⟩,⟨bw_ HB⟩⟩
 case rest =>
  clear HC3
  try clear hz5
  obtain ⟨kq,x5_2,rfl,HA,HJ2,BK1,HB⟩:=hcut
  cases kq with
  | zero=>exact absurd HA.out (by simp [spec_FallStore.j0])
  | succ kj2 =>
   have H:=HA.out
   clear HA
   simp only [spec_FallStore.j0] at H
   have HC7:=am_ H
   clear H
   have hz8:=cz5_ BK1
   go_upto_if 14 with (fail)
   go_cut [5] (fun v5 wc=>∃ (kq:Nat) (x5_6:Int),v5 = .int .i64 x5_6∧Aside0 (spec_FallStore.j1 kq a1 x5_6 l0_0 a0_1 a0_2 l0_3 a0_4=some r)∧Aside0 (kq≤kj2)∧Aside0 (wc.heap[gb1]?=some (.cells #[(.slice A0_0 l0_0.length c0_0),.int .i64 a0_1,.string a0_2,(.slice A0_3 l0_3.length c0_3),.int .i64 a0_4] 41 (0,0)))∧Aside0 (Below w.heap.size w wc))
   case first =>
    have H:=HC7.out
    clear HC7
    replace H:=it_ H;obtain ⟨c9,H⟩|⟨c9,H⟩:=H
    ·have c9b0:decide ((l0_3.length:Int) < x5_2)=true:=decide_eq_true c9
     clear c9
     (first | rw [c9b0]|(simp only [i64_w,i32_w];rw [c9b0])|skip)
     have H':=am_ H
     clear H
     have hz10:=cz5_ BK1
     go_wp2
     go_meet
     case rel => exact ⟨_,((l0_3.length:Int)),e1_,H',⟨by have:=HJ2.out;first|omega|exact Nat.le_refl _⟩,⟨kb_ BK1.out⟩,⟨bw_ HB⟩⟩
    ·have c9b0:decide ((l0_3.length:Int) < x5_2)=false:=decide_eq_false c9
     clear c9
     (first | rw [c9b0]|(simp only [i64_w,i32_w];rw [c9b0])|skip)
     have H':=am_ H
     clear H
     go_wp2
     go_meet
     case rel => exact ⟨_,(x5_2),e1_,H',⟨by have:=HJ2.out;first|omega|exact Nat.le_refl _⟩,⟨kb_ BK1.out⟩,⟨bw_ HB⟩⟩
   case rest =>
    clear HC7
    try clear p2
    try clear c6
    try clear c6b0
    try clear hz5
    try clear hz8
    obtain ⟨kq,x5_6,rfl,HA,HJ6,BK1,HB⟩:=hcut
    cases kq with
    | zero=>exact absurd HA.out (by simp [spec_FallStore.j1])
    | succ kj6 =>
     have H:=HA.out
     clear HA
     simp only [spec_FallStore.j1] at H
     replace H:=it_ H;obtain ⟨c11,H⟩|⟨c11,H⟩:=H
     ·have c11b0:decide (0 < a1)=true:=decide_eq_true c11
      clear c11
      replace H:=it_ H;obtain ⟨c12,H⟩|⟨c12,H⟩:=H
      ·have c12b0:decide ((wrap64 ((l0_3.length:Int) - x5_6)) < a1)=true:=decide_eq_true c12
       clear c12
       obtain ⟨y602,Ny2,H⟩:=sb_ (([]:List Int)) H
       generalize hji13:(wrap64 (x5_6+(wrap64 ((l0_3.length:Int) - x5_6))))=ji13 at H
       have hji13w:(IntKind.i64.wrap (x5_6+(wrap64 ((l0_3.length:Int) - x5_6))))=ji13:=(i64_w _).trans hji13
       replace H:=ip_ H;obtain ⟨c14,H⟩:=H
       have c14b0:=eq_true c14
       have c14b1:=decide_eq_true c14
       clear c14
       replace H:=ip_ H;obtain ⟨c15,H⟩:=H
       have c15b0:=eq_true c15
       have c15b1:=decide_eq_true c15
       clear c15
       replace H:=ip_ H;obtain ⟨c16,H⟩:=H
       have LMc16:=am_ c16
       clear c16
       obtain ⟨y606,hy6⟩:∃ y_:List Int,y_=(y602 ++ (l0_3.take ((ji13):Int).toNat)):=⟨_,rfl⟩
       replace H:(some y606)=some r:=yh_ hy6 H
       have Ny6:=am_ hy6
       clear hy6
       obtain rfl:=Option.some.inj H
       have hz17:=cz5_ BK1
       go_wp2_with (first|((with_reducible refine gd_ 35 ?_);refine rl_ (Kd.int .u8) 5 35 ([]:List Int) [] ?_;intro v3 w18 ho19 hb hg_ hnew_;clear hg_ hnew_;(first|rw [← Ny2.out] at ho19|(simp only [Int.reduceToNat] at ho19;rw [← Ny2.out] at ho19));have HO4:=rlo_ ho19 HB;replace BK1:=kl_ BK1 hb;replace HB:=ss_ HB hb;clear hb ho19;have hz20:=cz5_ BK1;obtain ⟨i021,hi021,_,hsz21,_⟩:=info_parts info5;obtain ⟨hcut21,hA21,hC21⟩:=print_take_of (P:=Tryz.prog) (Value.int .u8) 0 27 5 .i64 Tryz.underlying27 hi021 hsz21 A0_3 c0_3 l0_3 (ji13) (od_) (od_) HC0_3.out;have HR5:=am_ (Kd.C_of_reads (h1:=fun _=>rfl) (hA21 _ (Kd.reads_of_C HR0_3.out)));have HC5:=am_ hC21;clear hA21 hC21 hi021 hsz21)|((with_reducible refine gate_builtin (b:=.append) (xs:=#[.tmp 35,.tmp 39]) rfl ?_);at_builtin;refine Kd.R_append_rows (Kd.int .u8) (w0:=w) w.heap.size rfl (.tmp 35) (.tmp 39) 27 5 (.int .u8 0) 1 rfl Tryz.underlying27 info5 rfl (by decide) (by omega) v3 y602 (l0_3.take ((ji13):Int).toNat) _ _ _ (fun _=>True) (fun _=>False) rfl rfl ?aO ?aR (fun _ _ h=>h) (fun _ h=>h.elim) ?aF ?aB ?aS ?aL ?_;(case aR=>first|(have hl_:(l0_3.take ((ji13):Int).toNat).length=(ji13).toNat:=(by rw [List.length_take];have h_:((ji13):Int)≤(l0_3.length:Int):=od_;omega);have hq_:=(Kd.C_below HR5.out HB.out);generalize (l0_3.take ((ji13):Int).toNat).length=m_ at hq_ hl_;subst hl_;exact hq_)|(rw [← show (l0_3.take ((ji13):Int).toNat).length=(ji13).toNat from (by rw [List.length_take];have h_:((ji13):Int)≤(l0_3.length:Int):=od_;omega)];exact cb_ HR5 HB)|(exact cb_ HR5 HB));(case aB=>exact (bw_ HB));(case aF=>exact (fun _ _=>trivial));(case aO=>exact (kr_ HO4.out));(case aS=>exact (sz_ HB));(case aL=>have:=LMc16.out;have hlx_:=(show (l0_3.take ((ji13):Int).toNat).length=(ji13).toNat from (by rw [List.length_take];have h_:((ji13):Int)≤(l0_3.length:Int):=od_;omega));omega);intro v7 w22 ho hb hg hat;rw [← Ny6.out] at ho;replace BK1:=kg_ BK1 HO4 hg;replace HB:=am_ hb;have HO8:=am_ ho;clear HO4;clear ho hb hg hat))
       go_ret
       exact ⟨_,by first|rfl|(simp [errW_none,errW_some] <;> rfl)|(simp only [← hji13];first|rfl|(simp [errW_none,errW_some] <;> rfl))|(simp [*,errW_none,errW_some] <;> rfl),kr_ HO8.out,bw_ HB⟩
      ·have c12b0:decide ((wrap64 ((l0_3.length:Int) - x5_6)) < a1)=false:=decide_eq_false c12
       clear c12
       obtain ⟨y9,Ny9,H⟩:=sb_ (([]:List Int)) H
       generalize hji23:(wrap64 (x5_6+a1))=ji23 at H
       have hji23w:(IntKind.i64.wrap (x5_6+a1))=ji23:=(i64_w _).trans hji23
       replace H:=ip_ H;obtain ⟨c24,H⟩:=H
       have c24b0:=eq_true c24
       have c24b1:=decide_eq_true c24
       clear c24
       replace H:=ip_ H;obtain ⟨c25,H⟩:=H
       have c25b0:=eq_true c25
       have c25b1:=decide_eq_true c25
       clear c25
       replace H:=ip_ H;obtain ⟨c26,H⟩:=H
       have LMc26:=am_ c26
       clear c26
       obtain ⟨y13,hy13⟩:∃ y_:List Int,y_=(y9 ++ (l0_3.take ((ji23):Int).toNat)):=⟨_,rfl⟩
       replace H:(some y13)=some r:=yh_ hy13 H
       have Ny13:=am_ hy13
       clear hy13
       obtain rfl:=Option.some.inj H
       have hz27:=cz5_ BK1
       go_wp2_with (first|((with_reducible refine gd_ 35 ?_);refine rl_ (Kd.int .u8) 5 35 ([]:List Int) [] ?_;intro v10 w28 ho29 hb hg_ hnew_;clear hg_ hnew_;(first|rw [← Ny9.out] at ho29|(simp only [Int.reduceToNat] at ho29;rw [← Ny9.out] at ho29));have HO11:=rlo_ ho29 HB;replace BK1:=kl_ BK1 hb;replace HB:=ss_ HB hb;clear hb ho29;have hz30:=cz5_ BK1;obtain ⟨i031,hi031,_,hsz31,_⟩:=info_parts info5;obtain ⟨hcut31,hA31,hC31⟩:=print_take_of (P:=Tryz.prog) (Value.int .u8) 0 27 5 .i64 Tryz.underlying27 hi031 hsz31 A0_3 c0_3 l0_3 (ji23) (od_) (od_) HC0_3.out;have HR12:=am_ (Kd.C_of_reads (h1:=fun _=>rfl) (hA31 _ (Kd.reads_of_C HR0_3.out)));have HC12:=am_ hC31;clear hA31 hC31 hi031 hsz31)|((with_reducible refine gate_builtin (b:=.append) (xs:=#[.tmp 35,.tmp 39]) rfl ?_);at_builtin;refine Kd.R_append_rows (Kd.int .u8) (w0:=w) w.heap.size rfl (.tmp 35) (.tmp 39) 27 5 (.int .u8 0) 1 rfl Tryz.underlying27 info5 rfl (by decide) (by omega) v10 y9 (l0_3.take ((ji23):Int).toNat) _ _ _ (fun _=>True) (fun _=>False) rfl rfl ?aO ?aR (fun _ _ h=>h) (fun _ h=>h.elim) ?aF ?aB ?aS ?aL ?_;(case aR=>first|(have hl_:(l0_3.take ((ji23):Int).toNat).length=(ji23).toNat:=(by rw [List.length_take];have h_:((ji23):Int)≤(l0_3.length:Int):=od_;omega);have hq_:=(Kd.C_below HR12.out HB.out);generalize (l0_3.take ((ji23):Int).toNat).length=m_ at hq_ hl_;subst hl_;exact hq_)|(rw [← show (l0_3.take ((ji23):Int).toNat).length=(ji23).toNat from (by rw [List.length_take];have h_:((ji23):Int)≤(l0_3.length:Int):=od_;omega)];exact cb_ HR12 HB)|(exact cb_ HR12 HB));(case aB=>exact (bw_ HB));(case aF=>exact (fun _ _=>trivial));(case aO=>exact (kr_ HO11.out));(case aS=>exact (sz_ HB));(case aL=>have:=LMc26.out;have hlx_:=(show (l0_3.take ((ji23):Int).toNat).length=(ji23).toNat from (by rw [List.length_take];have h_:((ji23):Int)≤(l0_3.length:Int):=od_;omega));omega);intro v14 w32 ho hb hg hat;rw [← Ny13.out] at ho;replace BK1:=kg_ BK1 HO11 hg;replace HB:=am_ hb;have HO15:=am_ ho;clear HO11;clear ho hb hg hat))
       go_ret
       exact ⟨_,by first|rfl|(simp [errW_none,errW_some] <;> rfl)|(simp only [← hji23];first|rfl|(simp [errW_none,errW_some] <;> rfl))|(simp [*,errW_none,errW_some] <;> rfl),kr_ HO15.out,bw_ HB⟩
     ·have c11b0:decide (0 < a1)=false:=decide_eq_false c11
      clear c11
      obtain ⟨y16,Ny16,H⟩:=sb_ (([]:List Int)) H
      replace H:=ip_ H;obtain ⟨c33,H⟩:=H
      have c33b0:=eq_true c33
      have c33b1:=decide_eq_true c33
      clear c33
      replace H:=ip_ H;obtain ⟨c34,H⟩:=H
      have c34b0:=eq_true c34
      have c34b1:=decide_eq_true c34
      clear c34
      replace H:=ip_ H;obtain ⟨c35,H⟩:=H
      have LMc35:=am_ c35
      clear c35
      obtain ⟨y20,hy20⟩:∃ y_:List Int,y_=(y16 ++ (l0_3.take (x5_6:Int).toNat)):=⟨_,rfl⟩
      replace H:(some y20)=some r:=yh_ hy20 H
      have Ny20:=am_ hy20
      clear hy20
      obtain rfl:=Option.some.inj H
      go_wp2_with (first|((with_reducible refine gd_ 35 ?_);refine rl_ (Kd.int .u8) 5 35 ([]:List Int) [] ?_;intro v17 w36 ho37 hb hg_ hnew_;clear hg_ hnew_;(first|rw [← Ny16.out] at ho37|(simp only [Int.reduceToNat] at ho37;rw [← Ny16.out] at ho37));have HO18:=rlo_ ho37 HB;replace BK1:=kl_ BK1 hb;replace HB:=ss_ HB hb;clear hb ho37;have hz38:=cz5_ BK1;obtain ⟨i039,hi039,_,hsz39,_⟩:=info_parts info5;obtain ⟨hcut39,hA39,hC39⟩:=print_take_of (P:=Tryz.prog) (Value.int .u8) 0 27 5 .i64 Tryz.underlying27 hi039 hsz39 A0_3 c0_3 l0_3 x5_6 (od_) (od_) HC0_3.out;have HR19:=am_ (Kd.C_of_reads (h1:=fun _=>rfl) (hA39 _ (Kd.reads_of_C HR0_3.out)));have HC19:=am_ hC39;clear hA39 hC39 hi039 hsz39)|((with_reducible refine gate_builtin (b:=.append) (xs:=#[.tmp 35,.tmp 39]) rfl ?_);at_builtin;refine Kd.R_append_rows (Kd.int .u8) (w0:=w) w.heap.size rfl (.tmp 35) (.tmp 39) 27 5 (.int .u8 0) 1 rfl Tryz.underlying27 info5 rfl (by decide) (by omega) v17 y16 (l0_3.take (x5_6:Int).toNat) _ _ _ (fun _=>True) (fun _=>False) rfl rfl ?aO ?aR (fun _ _ h=>h) (fun _ h=>h.elim) ?aF ?aB ?aS ?aL ?_;(case aR=>first|(have hl_:(l0_3.take (x5_6:Int).toNat).length=x5_6.toNat:=(by rw [List.length_take];have h_:(x5_6:Int)≤(l0_3.length:Int):=od_;omega);have hq_:=(Kd.C_below HR19.out HB.out);generalize (l0_3.take (x5_6:Int).toNat).length=m_ at hq_ hl_;subst hl_;exact hq_)|(rw [← show (l0_3.take (x5_6:Int).toNat).length=x5_6.toNat from (by rw [List.length_take];have h_:(x5_6:Int)≤(l0_3.length:Int):=od_;omega)];exact cb_ HR19 HB)|(exact cb_ HR19 HB));(case aB=>exact (bw_ HB));(case aF=>exact (fun _ _=>trivial));(case aO=>exact (kr_ HO18.out));(case aS=>exact (sz_ HB));(case aL=>have:=LMc35.out;have hlx_:=(show (l0_3.take (x5_6:Int).toNat).length=x5_6.toNat from (by rw [List.length_take];have h_:(x5_6:Int)≤(l0_3.length:Int):=od_;omega));omega);intro v21 w40 ho hb hg hat;rw [← Ny20.out] at ho;replace BK1:=kg_ BK1 HO18 hg;replace HB:=am_ hb;have HO22:=am_ ho;clear HO18;clear ho hb hg hat))
      go_ret
      exact ⟨_,e2_,kr_ HO22.out,bw_ HB⟩
def spec_l14Crash.f (k:Nat) (a0_0:Int) (l0_1:List ByteArray) (a0_2:Int) (a0_3:ByteArray) (l0_4:List Int) (a0_5:Int) (a0_6:Int) (a0_7:ByteArray) (l1:List (S37)) (a2:Int):Option (Int × List ByteArray × Int × ByteArray × List Int × Int × Int × ByteArray × Int):=(spec_FallStore.f k l0_1 a0_2 a0_3 l0_4 a0_5 a2).bind fun t3=>((spec_OpenStore.f k l1 t3).bind fun bt6=>(some (a0_0,bt6.1,bt6.2.1,bt6.2.2.1,bt6.2.2.2.1,bt6.2.2.2.2.1,bt6.2.1,bt6.2.2.1,bt6.2.2.2.2.2)))
theorem spec_l14Crash.calls (k:Nat) (a0_0:Int) (A0_1:Option Addr) (c0_1:Nat) (l0_1:List ByteArray) (a0_2:Int) (a0_3:ByteArray) (A0_4:Option Addr) (c0_4:Nat) (l0_4:List Int) (a0_5:Int) (a0_6:Int) (a0_7:ByteArray) (A1:Option Addr) (c1:Nat) (l1:List (S37)) (a2:Int) (r1:Int) (r2:List ByteArray) (r3:Int) (r4:ByteArray) (r5:List Int) (r6:Int) (r7:Int) (r8:ByteArray) (r9:Int) (w:World) (hr0_1:Kd.C Kd.string w A0_1 l0_1.length l0_1) (hc0_1:l0_1.length≤c0_1) (hr0_4:Kd.C (Kd.int .u8) w A0_4 l0_4.length l0_4) (hc0_4:l0_4.length≤c0_4) (hr1:Kd.C k37 w A1 l1.length l1) (hc1:l1.length≤c1) (h:spec_l14Crash.f k a0_0 l0_1 a0_2 a0_3 l0_4 a0_5 a0_6 a0_7 l1 a2=some (r1,r2,r3,r4,r5,r6,r7,r8,r9)) :
  Calls Tryz.prog 57 #[.agg #[.int .i64 a0_0,.slice A0_1 l0_1.length c0_1,.int .i64 a0_2,.string a0_3,.slice A0_4 l0_4.length c0_4,.int .i64 a0_5,.int .i64 a0_6,.string a0_7],.slice A1 l1.length c1,.int .i64 a2] w fun e w'=>∃ v1_ v4_:Value,e = .returned (.tuple #[.agg #[.int .i64 r1,v1_,.int .i64 r3,.string r4,v4_,.int .i64 r6,.int .i64 r7,.string r8],.int .i64 r9])∧Kd.R Kd.string 9 w' w.heap.size (fun _=>True) v1_ r2∧Kd.R (Kd.int .u8) 5 w' w.heap.size (fun _=>True) v4_ r5∧Below w.heap.size w w':=by
 have hu43:=Tryz.underlying43
 have hu41:=Tryz.underlying41
 have hu37:=Tryz.underlying37
 have HR0_1:=am_ hr0_1
 have HC0_1:=am_ hc0_1
 clear hr0_1 hc0_1
 have HR0_4:=am_ hr0_4
 have HC0_4:=am_ hc0_4
 clear hr0_4 hc0_4
 have HR1:=am_ hr1
 have HC1:=am_ hc1
 clear hr1 hc1
 have HB:=h0_ w
 have H:((spec_FallStore.f k l0_1 a0_2 a0_3 l0_4 a0_5 a2).bind fun t3=>((spec_OpenStore.f k l1 t3).bind fun bt6=>(some (a0_0,bt6.1,bt6.2.1,bt6.2.2.1,bt6.2.2.2.1,bt6.2.2.2.2.1,bt6.2.1,bt6.2.2.1,bt6.2.2.2.2.2))))=some (r1,r2,r3,r4,r5,r6,r7,r8,r9):=h
 clear h
 replace H:=bi_ H;obtain ⟨t3,A4,H⟩:=H
 replace H:=bi_ H;obtain ⟨⟨t6,t9,t10,t11,t14,t15⟩,A5,H⟩:=H
 dsimp only at H
 simp only [Option.some.injEq,Prod.mk.injEq] at H
 obtain ⟨rfl,rfl,rfl,rfl,rfl,rfl,rfl,rfl,rfl⟩:=H
 go_enter Tryz.func57,Tryz.ntmps57
 go_wp2_with (first|((with_reducible refine gd_ 3 ?_);refine bx_ 3 43 #[.int .i64 a0_0,.slice A0_1 l0_1.length c0_1,.int .i64 a0_2,.string a0_3,.slice A0_4 l0_4.length c0_4,.int .i64 a0_5,.int .i64 a0_6,.string a0_7] (hx_ HB ?_);clear HB;intro gb1 w6 BK1 GW1 HB;have GE1:=GW1)|((with_reducible refine gd_ 6 ?_);refine x43_ 6 ?_;intro gb2 hg w7 hbox hb;have BK2:=am_ hbox;have GW2:=gg_ hg HB;have GE2:=GW2;replace HB:=ss_ HB hb;have NB1_2:=nla_ hg BK1;have NB2_1:=nga_ hg BK1;replace BK1:=kl_ BK1 hb;clear hb hbox hg;have hnb8:=NB1_2.out;have hnc8:=NB2_1.out;have hcz9:=cz8_ BK1)|((with_reducible refine gq_ 95 15 ?_);refine gc_ 15 Tryz.func95 (spec_FallStore.calls k _ _ l0_1 a0_2 a0_3 _ _ l0_4 a0_5 a2 t3 _ (cb_ HR0_1 HB) HC0_1.out (cb_ HR0_4 HB) HC0_4.out A4.out) ?_;rintro e w10 ⟨v4,rfl,ho0,hb⟩;refine ⟨_,rfl,?_⟩;have HO5:=rlo_ ho0 HB;replace BK1:=kl_ BK1 hb;replace BK2:=kl_ BK2 hb;replace HB:=ss_ HB hb;clear hb ho0;obtain ⟨Ao11,co11,eo11⟩:=Kd.R_slice HO5.out;subst eo11)|((with_reducible refine gq_ 94 16 ?_);refine gc_ 16 Tryz.func94 (spec_OpenStore.calls k _ _ l1 _ _ t3 t6 t9 t10 t11 t14 t15 _ (cb_ HR1 HB) HC1.out (ch_ HO5) (cl_ HO5) A5.out) ?_;rintro e w12 ⟨v7,v12,rfl,ho0,ho1,hb⟩;refine ⟨_,rfl,?_⟩;have HO8:=rlo_ ho0 HB;have HO13:=am_ (Kd.R_lower (Kd.R_new' ho1 (lt_ HO5)) (sz_ HB));replace HO5:=re_ HO5 ho1 hb;replace BK1:=kl_ BK1 hb;replace BK2:=kl_ BK2 hb;replace HB:=ss_ HB hb;clear hb ho0 ho1)|((with_reducible refine gd_ 8 ?_);refine x41_ 8 ?_;intro gb16 hg w13 hbox hb;replace HO5:=rb_ HO5 hb;replace HO8:=rb_ HO8 hb;replace HO13:=rb_ HO13 hb;have BK16:=am_ hbox;have GW16:=gg_ hg HB;have GE16:=GW16;replace HB:=ss_ HB hb;have NB1_16:=nla_ hg BK1;have NB16_1:=nga_ hg BK1;replace BK1:=kl_ BK1 hb;have NB2_16:=nla_ hg BK2;have NB16_2:=nga_ hg BK2;replace BK2:=kl_ BK2 hb;clear hb hbox hg;obtain ⟨Ao14,co14,eo14⟩:=Kd.R_slice HO8.out;subst eo14;have hnb15:=NB16_1.out;have hnc15:=NB1_16.out;have hnb16:=NB16_2.out;have hnc16:=NB2_16.out;have hz17:=cz5_ BK16;obtain ⟨Ao18,co18,eo18⟩:=Kd.R_slice HO13.out;subst eo18;have hcz19:=cz8_ BK1;have hcz20:=cz8_ BK2))
 refine bodyPost_ret (rct_ gb2 43 #[.int .i64 a0_0,.slice Ao14 t6.length co14,.int .i64 t9,.string t10,.slice Ao18 t11.length co18,.int .i64 t14,.int .i64 t9,.string t10] BK2 Tryz.underlying43) rfl ?_
 exact ⟨_,_,e2_,kfm2_ HO8 BK16 BK2,kfm2_ HO13 BK16 BK2,bw_ HB⟩
def spec_CrashMirror.f (k:Nat) (a0_0:Int) (l0_1:List ByteArray) (a0_2:Int) (a0_3:ByteArray) (l0_4:List Int) (a0_5:Int) (a0_6:Int) (a0_7:ByteArray) (l1:List (S37)) (a2:Int):Option (Int × List ByteArray × Int × ByteArray × List Int × Int × Int × ByteArray × Int):=(spec_MirrorOk.f k a0_0 l0_1 a0_2 a0_3 l0_4 a0_5 a0_6 a0_7 l1).bind fun t3=>(if t3=true then ((spec_l14Crash.f k a0_0 l0_1 a0_2 a0_3 l0_4 a0_5 a0_6 a0_7 l1 a2).bind fun bt4=>(some (bt4.1,bt4.2.1,bt4.2.2.1,bt4.2.2.2.1,bt4.2.2.2.2.1,bt4.2.2.2.2.2.1,bt4.2.2.2.2.2.2.1,bt4.2.2.2.2.2.2.2.1,bt4.2.2.2.2.2.2.2.2))) else ((spec_l14Copy.f a0_0 l0_1 a0_2 a0_3 l0_4 a0_5 a0_6 a0_7).bind fun bt17=>(some (bt17.1,bt17.2.1,bt17.2.2.1,bt17.2.2.2.1,bt17.2.2.2.2.1,bt17.2.2.2.2.2.1,bt17.2.2.2.2.2.2.1,bt17.2.2.2.2.2.2.2,(-1)))))
theorem spec_CrashMirror.calls (k:Nat) (a0_0:Int) (A0_1:Option Addr) (c0_1:Nat) (l0_1:List ByteArray) (a0_2:Int) (a0_3:ByteArray) (A0_4:Option Addr) (c0_4:Nat) (l0_4:List Int) (a0_5:Int) (a0_6:Int) (a0_7:ByteArray) (A1:Option Addr) (c1:Nat) (l1:List (S37)) (a2:Int) (r1:Int) (r2:List ByteArray) (r3:Int) (r4:ByteArray) (r5:List Int) (r6:Int) (r7:Int) (r8:ByteArray) (r9:Int) (w:World) (hr0_1:Kd.C Kd.string w A0_1 l0_1.length l0_1) (hc0_1:l0_1.length≤c0_1) (hr0_4:Kd.C (Kd.int .u8) w A0_4 l0_4.length l0_4) (hc0_4:l0_4.length≤c0_4) (hr1:Kd.C k37 w A1 l1.length l1) (hc1:l1.length≤c1) (h:spec_CrashMirror.f k a0_0 l0_1 a0_2 a0_3 l0_4 a0_5 a0_6 a0_7 l1 a2=some (r1,r2,r3,r4,r5,r6,r7,r8,r9)) :
  Calls Tryz.prog 25 #[.agg #[.int .i64 a0_0,.slice A0_1 l0_1.length c0_1,.int .i64 a0_2,.string a0_3,.slice A0_4 l0_4.length c0_4,.int .i64 a0_5,.int .i64 a0_6,.string a0_7],.slice A1 l1.length c1,.int .i64 a2] w fun e w'=>∃ v1_ v4_:Value,e = .returned (.tuple #[.agg #[.int .i64 r1,v1_,.int .i64 r3,.string r4,v4_,.int .i64 r6,.int .i64 r7,.string r8],.int .i64 r9])∧Kd.R Kd.string 9 w' w.heap.size (fun _=>True) v1_ r2∧Kd.R (Kd.int .u8) 5 w' w.heap.size (fun _=>True) v4_ r5∧Below w.heap.size w w':=by
 have hu43:=Tryz.underlying43
 have HR0_1:=am_ hr0_1
 have HC0_1:=am_ hc0_1
 clear hr0_1 hc0_1
 have HR0_4:=am_ hr0_4
 have HC0_4:=am_ hc0_4
 clear hr0_4 hc0_4
 have HR1:=am_ hr1
 have HC1:=am_ hc1
 clear hr1 hc1
 have HB:=h0_ w
 have H:((spec_MirrorOk.f k a0_0 l0_1 a0_2 a0_3 l0_4 a0_5 a0_6 a0_7 l1).bind fun t3=>(if t3=true then ((spec_l14Crash.f k a0_0 l0_1 a0_2 a0_3 l0_4 a0_5 a0_6 a0_7 l1 a2).bind fun bt4=>(some (bt4.1,bt4.2.1,bt4.2.2.1,bt4.2.2.2.1,bt4.2.2.2.2.1,bt4.2.2.2.2.2.1,bt4.2.2.2.2.2.2.1,bt4.2.2.2.2.2.2.2.1,bt4.2.2.2.2.2.2.2.2))) else ((spec_l14Copy.f a0_0 l0_1 a0_2 a0_3 l0_4 a0_5 a0_6 a0_7).bind fun bt17=>(some (bt17.1,bt17.2.1,bt17.2.2.1,bt17.2.2.2.1,bt17.2.2.2.2.1,bt17.2.2.2.2.2.1,bt17.2.2.2.2.2.2.1,bt17.2.2.2.2.2.2.2,(-1))))))=some (r1,r2,r3,r4,r5,r6,r7,r8,r9):=h
 clear h
 replace H:=bi_ H;obtain ⟨t3,A4,H⟩:=H
 replace H:=itb_ H;obtain ⟨rfl,H⟩|⟨rfl,H⟩:=H
 ·replace H:=bi_ H;obtain ⟨⟨t4,t5,t8,t9,t10,t13,t14,t15,t16⟩,A6,H⟩:=H
  dsimp only at H
  simp only [Option.some.injEq,Prod.mk.injEq] at H
  obtain ⟨rfl,rfl,rfl,rfl,rfl,rfl,rfl,rfl,rfl⟩:=H
  go_enter Tryz.func25,Tryz.ntmps25
  go_wp2_with (first|((with_reducible refine gd_ 3 ?_);refine bx_ 3 43 #[.int .i64 a0_0,.slice A0_1 l0_1.length c0_1,.int .i64 a0_2,.string a0_3,.slice A0_4 l0_4.length c0_4,.int .i64 a0_5,.int .i64 a0_6,.string a0_7] (hx_ HB ?_);clear HB;intro gb1 w7 BK1 GW1 HB;have GE1:=GW1)|((with_reducible refine gd_ 6 ?_);refine x43_ 6 ?_;intro gb2 hg w8 hbox hb;have BK2:=am_ hbox;have GW2:=gg_ hg HB;have GE2:=GW2;replace HB:=ss_ HB hb;have NB1_2:=nla_ hg BK1;have NB2_1:=nga_ hg BK1;replace BK1:=kl_ BK1 hb;clear hb hbox hg;have hnb9:=NB1_2.out;have hnc9:=NB2_1.out;have hcz10:=cz8_ BK1)|((with_reducible refine gq_ 39 10 ?_);refine gc_ 10 Tryz.func39 (spec_MirrorOk.calls k a0_0 _ _ l0_1 a0_2 a0_3 _ _ l0_4 a0_5 a0_6 a0_7 _ _ l1 true _ (cb_ HR0_1 HB) HC0_1.out (cb_ HR0_4 HB) HC0_4.out (cb_ HR1 HB) HC1.out A4.out) ?_;rintro e w11 ⟨rfl,hb⟩;refine ⟨_,rfl,?_⟩;replace BK1:=kl_ BK1 hb;replace BK2:=kl_ BK2 hb;replace HB:=ss_ HB hb;clear hb;have hcz12:=cz8_ BK1)|((with_reducible refine gq_ 57 17 ?_);refine gc_ 17 Tryz.func57 (spec_l14Crash.calls k a0_0 _ _ l0_1 a0_2 a0_3 _ _ l0_4 a0_5 a0_6 a0_7 _ _ l1 a2 t4 t5 t8 t9 t10 t13 t14 t15 t16 _ (cb_ HR0_1 HB) HC0_1.out (cb_ HR0_4 HB) HC0_4.out (cb_ HR1 HB) HC1.out A6.out) ?_;rintro e w13 ⟨v6,v11,rfl,ho0,ho1,hb⟩;refine ⟨_,rfl,?_⟩;have HO7:=rlo_ ho0 HB;have HO12:=rlo_ ho1 HB;replace BK1:=kl_ BK1 hb;replace BK2:=kl_ BK2 hb;replace HB:=ss_ HB hb;clear hb ho0 ho1;have hcz14:=cz8_ BK2;obtain ⟨Ao15,co15,eo15⟩:=Kd.R_slice HO7.out;subst eo15;obtain ⟨Ao16,co16,eo16⟩:=Kd.R_slice HO12.out;subst eo16))
  refine bodyPost_ret (rct_ gb2 43 #[.int .i64 t4,.slice Ao15 t5.length co15,.int .i64 t8,.string t9,.slice Ao16 t10.length co16,.int .i64 t13,.int .i64 t14,.string t15] BK2 Tryz.underlying43) rfl ?_
  exact ⟨_,_,e2_,kfm_ HO7 BK2,kfm_ HO12 BK2,bw_ HB⟩
 ·replace H:=bi_ H;obtain ⟨⟨t17,t18,t21,t22,t23,t26,t27,t28⟩,A17,H⟩:=H
  dsimp only at H
  simp only [Option.some.injEq,Prod.mk.injEq] at H
  obtain ⟨rfl,rfl,rfl,rfl,rfl,rfl,rfl,rfl,rfl⟩:=H
  go_enter Tryz.func25,Tryz.ntmps25
  go_wp2_with (first|((with_reducible refine gd_ 3 ?_);refine bx_ 3 43 #[.int .i64 a0_0,.slice A0_1 l0_1.length c0_1,.int .i64 a0_2,.string a0_3,.slice A0_4 l0_4.length c0_4,.int .i64 a0_5,.int .i64 a0_6,.string a0_7] (hx_ HB ?_);clear HB;intro gb1 w18 BK1 GW1 HB;have GE1:=GW1)|((with_reducible refine gd_ 6 ?_);refine x43_ 6 ?_;intro gb2 hg w19 hbox hb;have BK2:=am_ hbox;have GW2:=gg_ hg HB;have GE2:=GW2;replace HB:=ss_ HB hb;have NB1_2:=nla_ hg BK1;have NB2_1:=nga_ hg BK1;replace BK1:=kl_ BK1 hb;clear hb hbox hg;have hnb20:=NB1_2.out;have hnc20:=NB2_1.out;have hcz21:=cz8_ BK1)|((with_reducible refine gq_ 39 10 ?_);refine gc_ 10 Tryz.func39 (spec_MirrorOk.calls k a0_0 _ _ l0_1 a0_2 a0_3 _ _ l0_4 a0_5 a0_6 a0_7 _ _ l1 false _ (cb_ HR0_1 HB) HC0_1.out (cb_ HR0_4 HB) HC0_4.out (cb_ HR1 HB) HC1.out A4.out) ?_;rintro e w22 ⟨rfl,hb⟩;refine ⟨_,rfl,?_⟩;replace BK1:=kl_ BK1 hb;replace BK2:=kl_ BK2 hb;replace HB:=ss_ HB hb;clear hb;have hcz23:=cz8_ BK1)|((with_reducible refine gq_ 56 13 ?_);refine gc_ 13 Tryz.func56 (spec_l14Copy.calls a0_0 _ _ l0_1 a0_2 a0_3 _ _ l0_4 a0_5 a0_6 a0_7 t17 t18 t21 t22 t23 t26 t27 t28 _ (cb_ HR0_1 HB) HC0_1.out (cb_ HR0_4 HB) HC0_4.out A17.out) ?_;rintro e w24 ⟨v19,v24,rfl,ho0,ho1,hb⟩;refine ⟨_,rfl,?_⟩;have HO20:=rlo_ ho0 HB;have HO25:=rlo_ ho1 HB;replace BK1:=kl_ BK1 hb;replace BK2:=kl_ BK2 hb;replace HB:=ss_ HB hb;clear hb ho0 ho1;have hcz25:=cz8_ BK2;obtain ⟨Ao26,co26,eo26⟩:=Kd.R_slice HO20.out;subst eo26;obtain ⟨Ao27,co27,eo27⟩:=Kd.R_slice HO25.out;subst eo27))
  refine bodyPost_ret (rct_ gb2 43 #[.int .i64 t17,.slice Ao26 t18.length co26,.int .i64 t21,.string t22,.slice Ao27 t23.length co27,.int .i64 t26,.int .i64 t27,.string t28] BK2 Tryz.underlying43) rfl ?_
  exact ⟨_,_,e2_,kfm_ HO20 BK2,kfm_ HO25 BK2,bw_ HB⟩
end Go.Proofs.YtnlndmoecljicaaGreat.Q
end
section
namespace Go.Proofs.YtnlndmoecljicaaGreat.Q
open Go.ChangeShapes Go.Proofs.YtnlndmoecljicaaGreat.XO Go.Proofs.YtnlndmoecljicaaGreatW.PrintWords Go.RowKit Go.WideShapes
set_option maxHeartbeats 8000000
set_option maxRecDepth 100000
def G24 (x:S24):Prop:=(Lit.int .i64 x.f0).wf=true∧x.f1.size≤9223372036854775807
theorem opens24:Opens Tryz.prog k24 24 G24:=by
 intro H enc w base spare held fuel cs x h
 obtain ⟨xs,n,_,_,hl,hlen,hf⟩:=DataW.trod_struct Tryz.underlying24 h
 replace hl:cs.length=2:=hl.trans (by kernel_rfl)
 replace hlen:xs.length=2:=hlen
 obtain ⟨y0,e0⟩:=get_cells hlen 0 (by decide)
 have h0:DataW.trod enc Tryz.prog w base spare held n 3 ((cs.drop 0).take (Tryz.prog.cellsOf 3))=some y0:=(hf 0 _ rfl).trans e0
 rw [show Tryz.prog.cellsOf 3=1 from by kernel_rfl] at h0
 obtain ⟨a0,k0_,g0⟩:=(opens_int Tryz.underlying3) h0
 obtain ⟨y1,e1⟩:=get_cells hlen 1 (by decide)
 have h1:DataW.trod enc Tryz.prog w base spare held n 9 ((cs.drop 1).take (Tryz.prog.cellsOf 9))=some y1:=(hf 1 _ rfl).trans e1
 rw [show Tryz.prog.cellsOf 9=1 from by kernel_rfl] at h1
 obtain ⟨a1,k1_,g1⟩:=(opens_string Tryz.underlying9) h1
 exact ⟨⟨a0,a1⟩,⟨_,_,(List.drop_zero).symm.trans (part_cells cs 0 1),k0_,(by rw [← cut_cells hl (show 1+1=2 from rfl)];exact k1_)⟩,g0,g1⟩
def G26 (x:S26):Prop:=(x.f0.length≤9223372036854775807∧∀ y0 ∈ x.f0,y0.size≤9223372036854775807)∧G24 x.f1
theorem opens26:Opens Tryz.prog k26 26 G26:=by
 intro H enc w base spare held fuel cs x h
 obtain ⟨xs,n,_,_,hl,hlen,hf⟩:=DataW.trod_struct Tryz.underlying26 h
 replace hl:cs.length=3:=hl.trans (by kernel_rfl)
 replace hlen:xs.length=2:=hlen
 obtain ⟨y0,e0⟩:=get_cells hlen 0 (by decide)
 have h0:DataW.trod enc Tryz.prog w base spare held n 22 ((cs.drop 0).take (Tryz.prog.cellsOf 22))=some y0:=(hf 0 _ rfl).trans e0
 rw [show Tryz.prog.cellsOf 22=1 from by kernel_rfl] at h0
 obtain ⟨a0,k0_,g0⟩:=(opens_slice Tryz.underlying22 (by kernel_rfl) (opens_string Tryz.underlying9)) h0
 obtain ⟨y1,e1⟩:=get_cells hlen 1 (by decide)
 have h1:DataW.trod enc Tryz.prog w base spare held n 24 ((cs.drop 1).take (Tryz.prog.cellsOf 24))=some y1:=(hf 1 _ rfl).trans e1
 rw [show Tryz.prog.cellsOf 24=2 from by kernel_rfl] at h1
 obtain ⟨a1,k1_,g1⟩:=opens24 h1
 exact ⟨⟨a0,a1⟩,⟨_,_,(List.drop_zero).symm.trans (part_cells cs 0 1),k0_,(by rw [← cut_cells hl (show 1+2=3 from rfl)];exact k1_)⟩,g0,g1⟩
def G29 (x:S29):Prop:=G26 x.f0∧(x.f1.length≤9223372036854775807∧∀ y0 ∈ x.f1,(Lit.int .u8 y0).wf=true)∧(Lit.int .i64 x.f2).wf=true
theorem opens29:Opens Tryz.prog k29 29 G29:=by
 intro H enc w base spare held fuel cs x h
 obtain ⟨xs,n,_,_,hl,hlen,hf⟩:=DataW.trod_struct Tryz.underlying29 h
 replace hl:cs.length=5:=hl.trans (by kernel_rfl)
 replace hlen:xs.length=3:=hlen
 obtain ⟨y0,e0⟩:=get_cells hlen 0 (by decide)
 have h0:DataW.trod enc Tryz.prog w base spare held n 26 ((cs.drop 0).take (Tryz.prog.cellsOf 26))=some y0:=(hf 0 _ rfl).trans e0
 rw [show Tryz.prog.cellsOf 26=3 from by kernel_rfl] at h0
 obtain ⟨a0,k0_,g0⟩:=opens26 h0
 obtain ⟨y1,e1⟩:=get_cells hlen 1 (by decide)
 have h1:DataW.trod enc Tryz.prog w base spare held n 27 ((cs.drop 3).take (Tryz.prog.cellsOf 27))=some y1:=(hf 1 _ rfl).trans e1
 rw [show Tryz.prog.cellsOf 27=1 from by kernel_rfl] at h1
 obtain ⟨a1,k1_,g1⟩:=(opens_slice Tryz.underlying27 (by kernel_rfl) (opens_int Tryz.underlying5)) h1
 obtain ⟨y2,e2⟩:=get_cells hlen 2 (by decide)
 have h2:DataW.trod enc Tryz.prog w base spare held n 3 ((cs.drop 4).take (Tryz.prog.cellsOf 3))=some y2:=(hf 2 _ rfl).trans e2
 rw [show Tryz.prog.cellsOf 3=1 from by kernel_rfl] at h2
 obtain ⟨a2,k2_,g2⟩:=(opens_int Tryz.underlying3) h2
 exact ⟨⟨a0,a1,a2⟩,⟨_,_,(List.drop_zero).symm.trans (part_cells cs 0 3),k0_,⟨_,_,part_cells cs 3 1,k1_,(by rw [← cut_cells hl (show 4+1=5 from rfl)];exact k2_)⟩⟩,g0,g1,g2⟩
def G31 (x:S31):Prop:=(Lit.int .i64 x.f0).wf=true∧G29 x.f1∧G24 x.f2
theorem opens31:Opens Tryz.prog k31 31 G31:=by
 intro H enc w base spare held fuel cs x h
 obtain ⟨xs,n,_,_,hl,hlen,hf⟩:=DataW.trod_struct Tryz.underlying31 h
 replace hl:cs.length=8:=hl.trans (by kernel_rfl)
 replace hlen:xs.length=3:=hlen
 obtain ⟨y0,e0⟩:=get_cells hlen 0 (by decide)
 have h0:DataW.trod enc Tryz.prog w base spare held n 3 ((cs.drop 0).take (Tryz.prog.cellsOf 3))=some y0:=(hf 0 _ rfl).trans e0
 rw [show Tryz.prog.cellsOf 3=1 from by kernel_rfl] at h0
 obtain ⟨a0,k0_,g0⟩:=(opens_int Tryz.underlying3) h0
 obtain ⟨y1,e1⟩:=get_cells hlen 1 (by decide)
 have h1:DataW.trod enc Tryz.prog w base spare held n 29 ((cs.drop 1).take (Tryz.prog.cellsOf 29))=some y1:=(hf 1 _ rfl).trans e1
 rw [show Tryz.prog.cellsOf 29=5 from by kernel_rfl] at h1
 obtain ⟨a1,k1_,g1⟩:=opens29 h1
 obtain ⟨y2,e2⟩:=get_cells hlen 2 (by decide)
 have h2:DataW.trod enc Tryz.prog w base spare held n 24 ((cs.drop 6).take (Tryz.prog.cellsOf 24))=some y2:=(hf 2 _ rfl).trans e2
 rw [show Tryz.prog.cellsOf 24=2 from by kernel_rfl] at h2
 obtain ⟨a2,k2_,g2⟩:=opens24 h2
 exact ⟨⟨a0,a1,a2⟩,⟨_,_,(List.drop_zero).symm.trans (part_cells cs 0 1),k0_,⟨_,_,part_cells cs 1 5,k1_,(by rw [← cut_cells hl (show 6+2=8 from rfl)];exact k2_)⟩⟩,g0,g1,g2⟩
end Go.Proofs.YtnlndmoecljicaaGreat.Q
end
section
namespace Go.Proofs.YtnlndmoecljicaaGreat.Q
open Go.Proofs.YtnlndmoecljicaaGreatW.PrintLast Go.Proofs.YtnlndmoecljicaaGreatW.PrintMore Go.Proofs.YtnlndmoecljicaaGreatW.PrintWords Go.RowKit Go.Shelf
set_option maxHeartbeats 8000000
set_option maxRecDepth 100000
section
structure BelowBut (B g:Nat) (w w':World):Prop where
 os:w'.os=w.os
 tape:w'.tape=w.tape
 output:w'.output=w.output
 size:w.heap.size≤w'.heap.size
 block:∀ k,k < B->k ≠ g->w'.heap[k]?=w.heap[k]?
theorem BelowBut.refl (B g:Nat) (w:World):BelowBut B g w w:=⟨rfl,rfl,rfl,Nat.le_refl _,fun _ _ _=>rfl⟩
theorem BelowBut.trans {B g:Nat} {a b c:World} (h:BelowBut B g a b) (k:BelowBut B g b c):BelowBut B g a c :=
 ⟨k.os.trans h.os,k.tape.trans h.tape,k.output.trans h.output,Nat.le_trans h.size k.size,fun i hi hn=>(k.block i hi hn).trans (h.block i hi hn)⟩
theorem BelowBut.drew {B g:Nat} {a w:World} (h:BelowBut B g a w):BelowBut B g a w.drew:=⟨h.os,h.tape,h.output,h.size,h.block⟩
theorem BelowBut.grown {B g:Nat} {w w':World} (h:w.grownBy w' (some g)) (hB:B≤w.heap.size):BelowBut B g w w' :=
 ⟨h.os,h.tape,h.output,h.size,fun k hk hn=>h.block k (by omega) (fun e=>hn (Option.some.inj e))⟩
theorem BelowBut.putObj {n₀ g:Nat} {w:World} (hn:n₀≤w.heap.size) (W:World) (l:Nat) (o o':Obj) (hl:w.heap.size≤l) (h:W.heap[l]?=some o) (_:o.isCells=false) (_:o.isWalk=false):BelowBut n₀ g W (W.putObj l o'):=by
 have hg:=grownBy_putObj' W l o'
 exact ⟨hg.os,hg.tape,hg.output,hg.size,fun k hk _=>hg.block k (by have:=(Array.getElem?_eq_some_iff.1 h).1;omega) (fun e=>by cases e;omega)⟩
theorem BelowBut.cell {B g:Nat} {w w':World} (h:BelowBut B g w w') {p:Addr} (hp:p.block < B) (hn:p.block ≠ g):w'.cell? p=w.cell? p:=World.cell?_of_block (w:=w) (h.block p.block hp hn)
def starts (k:Nat):List Nat:=(List.range k).map (64 * ·)
theorem starts_succ (k:Nat):starts (k+1)=starts k ++ [64 * k]:=by simp [starts,List.range_succ]
theorem starts_length (k:Nat):(starts k).length=k:=by simp [starts]
attribute [local go_sem] Oper.semAt_some
set_option maxHeartbeats 2000000 in
theorem chunk1_in (F:Fence) (n:Nat) (hF:F.fn 169) (hro:F.round=none) (hn:1≤n) (l Bs Bn n₀ gh b off cap m L:Nat) (hL:L=64 * m) (hcap:L≤cap) (hreach:L≤140737488355328)
  (hb:b < n₀) (hbs:Bs < n₀) (hbn:Bn < n₀) (hs1:Bs ≠ gh) (hs2:Bn ≠ gh) (J Jx:List Nat->World->Prop)
  (hY : ∀ pre x W,J pre W->pre.length < m->x+64≤L->YieldAt F (n - 1) Tryz.prog l #[.slice (some ⟨b,off+x,none⟩) 64 64] W fun e W' =>
   (e = .returned (.bool true)∧J (pre ++ [x]) W'∧BelowBut n₀ gh W W')∨(e = .returned (.bool false)∧Jx (pre ++ [x]) W'))
  (W:World) (hJ:AbidesFrom W.heap.size J) (hBs:W.cell? ⟨Bs,0,none⟩=some (.slice (some ⟨b,off,none⟩) L cap)) (hBn:W.cell? ⟨Bn,0,none⟩=some (.int .i64 64)) (h0:J [] W) :
  CallsIn F n Tryz.prog 169 #[.func (.yield l) #[] #[],.pointer (some ⟨Bs,0,none⟩),.pointer (some ⟨Bn,0,none⟩)] W fun e W'=>(∃ v,e = .returned v) ∧
   ((∃ ys,ys=starts m∧J ys W')∨(∃ pre,True∧Jx pre W')):=by
 refine callsIn_of_wp Tryz.func169 rfl hF ?_ hro
 have HL:=am_ hL
 clear hL
 simp only [Tryz.ntmps169,List.size_toArray,List.length_cons,List.length_nil,Nat.reduceAdd,Nat.reduceSub,Array.replicate_succ,Array.replicate_zero,List.push_toArray,List.append_toArray,List.nil_append,List.cons_append]
 gi_wp2
 gi_loopw [4] (fun i wr=>∃ k i0:Nat,k≤m∧Aside0 (i0=64 * k)∧i = .int .i64 i0∧J (starts k) wr∧BelowBut n₀ gh W wr)
  (fun i _=>L - (intOf i).toNat)
 case atStart => exact ⟨0,0,Nat.zero_le _,⟨rfl⟩,rfl,h0,BelowBut.refl _ _ _⟩
 case round =>
  obtain ⟨k,i,hk,HI,rfl,hJs,hnx⟩:=hrel
  have c1:wr.cell? ⟨Bs,0,none⟩=some (.slice (some ⟨b,off,none⟩) L cap):=(hnx.cell (p:=⟨Bs,0,none⟩) hbs hs1).trans hBs
  have c2:wr.cell? ⟨Bn,0,none⟩=some (.int .i64 64):=(hnx.cell (p:=⟨Bn,0,none⟩) hbn hs2).trans hBn
  have hi:=HI.out
  have hl:=HL.out
  by_cases hlt:i < L
  ·have hdrew:J (starts k) wr.drew:=hJ _ _ _ none hJs ⟨rfl,rfl,rfl,Nat.le_refl _,fun _ _ _=>rfl⟩ (fun r e=>by cases e)
   obtain ⟨fn,tmps,assign,body,hy,hR⟩:=hY _ i wr.drew hdrew (by rw [starts_length];omega) (by omega)
   have hle:i+64≤L:=by omega
   clear hi hl
   have b1:decide (i < L)=true:=decide_eq_true hlt
   gi_wp2
   gi_region
   all_goals
    gi_wp2
    refine hR.mono ?_
    rintro e W3 (⟨rfl,hJ3,hk3⟩|⟨rfl,hJx3⟩)
    ·have c3:W3.cell? ⟨Bn,0,none⟩=some (.int .i64 64):=(hk3.cell (p:=⟨Bn,0,none⟩) hbn hs2).trans c2
     gi_wp2
     go_roundw
     case rel => exact ⟨k+1,i+64,by have h1:=HI.out;have h2:=HL.out;omega,⟨by have h1:=HI.out;omega⟩,by go_num,by rw [starts_succ,← HI.out];exact hJ3,hnx.drew.trans hk3⟩
     case measure => simp [intOf];omega
    ·gi_wp2
     refine bodyPost_ret (results_none rfl _ _ _) rfl ?_
     exact ⟨⟨_,rfl⟩,.inr ⟨_,trivial,hJx3⟩⟩
  ·have b1:decide (i < L)=false:=decide_eq_false hlt
   have hkm:k=m:=by omega
   rw [hkm] at hJs
   clear hi hl hkm
   gi_wp2
   go_end0
   exact ⟨⟨_,rfl⟩,.inl ⟨_,rfl,hJs⟩⟩
theorem chunk_stops (F:Fence) (n:Nat) (hF:F.fn 169) (hro:F.round=none) (hn:1≤n) (Bs Bn n₀ gh b off cap m L:Nat) (hL:L=64 * m) (hcap:L≤cap) (hreach:L≤140737488355328)
  (hb:b < n₀) (hbs:Bs < n₀) (hbn:Bn < n₀) (hs1:Bs ≠ gh) (hs2:Bn ≠ gh) (w:World) (hn₀:n₀≤w.heap.size)
  (hBs:w.cell? ⟨Bs,0,none⟩=some (.slice (some ⟨b,off,none⟩) L cap)) (hBn:w.cell? ⟨Bn,0,none⟩=some (.int .i64 64)) :
  SeqStopsK F n Tryz.prog 169 #[.pointer (some ⟨Bs,0,none⟩),.pointer (some ⟨Bn,0,none⟩)] (fun x:{ x:Nat // x+64≤L }=>#[Value.slice (some ⟨b,off+x.1,none⟩) 64 64]) (BelowBut n₀ gh)
   (fun ys=>ys.map (·.1)=starts m) (fun _=>True) m w:=fun l J Jx W hW hJ _ hY h0=>by
 have hBs':=(hW.cell (p:=⟨Bs,0,none⟩) (Nat.lt_of_lt_of_le hbs hn₀)).trans hBs
 have hBn':=(hW.cell (p:=⟨Bn,0,none⟩) (Nat.lt_of_lt_of_le hbn hn₀)).trans hBn
 refine (chunk1_in F n hF hro hn l Bs Bn n₀ gh b off cap m L hL hcap hreach hb hbs hbn hs1 hs2 (fun pre W=>∃ q:List { x:Nat // x+64≤L },q.map (·.1)=pre∧J q W) (fun pre W=>∃ q:List { x:Nat // x+64≤L },q.map (·.1)=pre∧Jx q W) ?_ W ?_ hBs' hBn' ⟨[],rfl,h0⟩).mono ?_
 ·rintro pre x W1 ⟨q,rfl,hq⟩ hlen hx
  obtain ⟨fn,tmps,assign,body,hy,hR⟩:=hY q ⟨x,hx⟩ W1 hq (by simpa using hlen)
  refine ⟨fn,tmps,assign,body,hy,hR.mono ?_⟩
  rintro e W' (⟨rfl,hJ1,hk⟩|⟨rfl,hJx⟩)
  ·exact .inl ⟨rfl,⟨_,by simp,hJ1⟩,hk⟩
  ·exact .inr ⟨rfl,_,by simp,hJx⟩
 ·rintro s A B row ⟨q,rfl,hq⟩ hg hr
  exact ⟨q,rfl,hJ q A B row hq hg hr⟩
 ·rintro e W' ⟨he,⟨ys,rfl,q,hq,hj⟩|⟨pre,_,q,hq,hj⟩⟩
  ·exact ⟨he,.inl ⟨q,hq,hj⟩⟩
  ·exact ⟨he,.inr ⟨q,trivial,hj⟩⟩
set_option maxHeartbeats 1000000 in
theorem chunk_in (F:Fence) (n:Nat) (hF:F.fn 157) (hro:F.round=none) (a:Option Addr) (len cap:Nat) (w:World) :
  CallsIn F n Tryz.prog 157 #[.slice a len cap,.int .i64 64] w fun e w'=>e = .returned (.func (.func 169) #[] #[.pointer (some ⟨w.heap.size,0,none⟩),.pointer (some ⟨w.heap.size+1,0,none⟩)])∧w'=(w.alloc (.cells #[.slice a len cap] 27)).alloc (.cells #[.int .i64 64] 3):=by
 refine callsIn_of_wp Tryz.func157 rfl hF ?_ hro
 simp only [Tryz.ntmps157,List.size_toArray,List.length_cons,List.length_nil,Nat.reduceAdd,Nat.reduceSub,Array.replicate_succ,Array.replicate_zero,List.push_toArray,List.append_toArray,List.nil_append,List.cons_append]
 gi_wp2
 go_ret
 exact ⟨rfl,rfl⟩
end
end Go.Proofs.YtnlndmoecljicaaGreat.Q
end
section
namespace Go.Proofs.YtnlndmoecljicaaGreat.Q
open Go.Proofs.YtnlndmoecljicaaGreat.B Go.Proofs.YtnlndmoecljicaaGreatW.PrintMore Go.Proofs.YtnlndmoecljicaaGreatW.PrintWords Go.RowKit
set_option maxHeartbeats 8000000
set_option maxRecDepth 100000
theorem spec_in_eq (a b c:Int):spec_l1In.f a b c=some (decide (b≤a∧a≤c)):=by
 unfold spec_l1In.f
 by_cases h:a ≥ b
 ·rw [if_pos h]
  by_cases h2:a≤c
  ·rw [decide_eq_true h2,decide_eq_true ⟨h,h2⟩]
  ·rw [decide_eq_false h2,decide_eq_false (fun q=>h2 q.2)]
 ·rw [if_neg h,decide_eq_false (fun q=>h q.1)]
theorem impl_in_eq (a b c:Int):impl_inRange.f a b c=some (decide (b≤a∧a≤c)):=spec_in_eq a b c
theorem szHead_eq (n:Int) (s:ByteArray) (left:Int) (h0:0≤left) (h1:left≤1048576) (hs:s.size≤9223372036854775807) :
  ∃ r,laws_szHead.f n s left=some r∧(r < 0∨0≤r∧r+s.size=left):=by
 unfold laws_szHead.f
 rw [w64 (by omega) (by omega)]
 by_cases h:left - (s.size:Int) < 0
 ·exact ⟨-1,if_pos h,.inl (by omega)⟩
 ·exact ⟨_,if_neg h,.inr ⟨by omega,by omega⟩⟩
theorem toHead_eq (n:Int) (s:ByteArray):laws_toHead.f n s=some (n,s):=rfl
theorem eqHead_eq (n:Int) (s:ByteArray):laws_eqHead.f n s n s=some true:=by
 unfold laws_eqHead.f
 rw [if_pos rfl,if_pos rfl]
theorem rdS {l:List ByteArray} {i:Nat} {x:ByteArray} (h:l[i]?=some x):rdOf ByteArray.empty l (i:Int)=x:=rdOf_at h
theorem nextS {i n:Nat} (h:i < n) (hn:n≤9223372036854775807):wrap64 ((i:Int) + 1)=((i+1:Nat):Int):=by
 rw [w64 (by omega) (by omega)]
 omega
theorem szStringS_ev (l:List ByteArray) (left:Int) (h0:0≤left) (h1:left≤1048576) (hl:l.length≤9223372036854775807) (hg:∀ x ∈ l,x.size≤9223372036854775807) :
  ∃ r,Ev (fun k=>laws_szStringS.f k l left) r∧(r < 0∨0≤r∧r+l.length+total l=left):=by
 have main:∀ (d i:Nat) (q:Int),i+d=l.length->0≤q->q≤1048576->∃ r,Ev (fun k=>laws_szStringS.l0 k l q (i:Int)) r∧(r < 0∨0≤r∧r+total (l.drop i)=q):=by
  intro d
  induction d with
  | zero =>
   intro i q hi hq hq1
   refine ⟨q,Ev.step (f:=fun _=>some q) (fun k=>?_) (Ev.now q),.inr ⟨hq,?_⟩⟩
   ·simp only [laws_szStringS.l0]
    rw [if_neg (by omega)]
   ·rw [List.drop_of_length_le (by omega)]
    simp [total]
  | succ d ih =>
   intro i q hi hq hq1
   obtain ⟨x,hx⟩:=get_some (l:=l) (i:=i) (by omega)
   have hs:=hg x (List.mem_of_getElem? hx)
   have hw:wrap64 (q - (x.size:Int))=q - (x.size:Int):=w64 (by omega) (by omega)
   by_cases hc:q - (x.size:Int) < 0
   ·refine ⟨-1,Ev.step (f:=fun _=>some (-1)) (fun k=>?_) (Ev.now _),.inl (by omega)⟩
    simp only [laws_szStringS.l0]
    rw [if_pos (by omega),if_pos (by omega),rdS hx,hw,if_pos hc]
   ·obtain ⟨r2,h2,h3⟩:=ih (i+1) (q - x.size) (by omega) (by omega) (by omega)
    refine ⟨r2,Ev.step (fun k=>?_) h2,?_⟩
    ·simp only [laws_szStringS.l0]
     rw [if_pos (by omega),if_pos (by omega),rdS hx,hw,if_neg hc,nextS (show i < l.length by omega) hl]
    ·rw [drop_one hx,total_cons]
     omega
 have hw:wrap64 (left - (l.length:Int))=left - (l.length:Int):=w64 (by omega) (by omega)
 by_cases h:left - (l.length:Int) < 0
 ·refine ⟨-1,Ev.congr (fun k=>?_) (Ev.now (-1)),.inl (by omega)⟩
  unfold laws_szStringS.f
  rw [hw,if_pos h]
 ·obtain ⟨r,h2,h3⟩:=main l.length 0 (left - l.length) (by omega) (by omega) (by omega)
  refine ⟨r,Ev.congr (fun k=>?_) h2,?_⟩
  ·unfold laws_szStringS.f
   rw [hw,if_neg h]
   rfl
  ·rw [List.drop_zero] at h3
   omega
theorem toStringS_ev (l:List ByteArray) (hl:l.length≤1048576):Ev (fun k=>laws_toStringS.f k l) l:=by
 have main:∀ (d i:Nat) (acc:List ByteArray),i+d=l.length->acc.length=l.length->acc.take i=l.take i->Ev (fun k=>laws_toStringS.l0 k l acc (i:Int)) l:=by
  intro d
  induction d with
  | zero =>
   intro i acc hi ha ht
   refine Ev.step (f:=fun _=>some l) (fun k=>?_) (Ev.now _)
   simp only [laws_toStringS.l0]
   rw [if_neg (by omega)]
   rw [List.take_of_length_le (by omega),List.take_of_length_le (by omega)] at ht
   rw [ht]
  | succ d ih =>
   intro i acc hi ha ht
   obtain ⟨x,hx⟩:=get_some (l:=l) (i:=i) (by omega)
   refine Ev.step (fun k=>?_) (ih (i+1) (acc.set i x) (by omega) (by simp [ha]) ?_)
   ·simp only [laws_toStringS.l0]
    rw [if_pos (by omega),if_pos (by omega),if_pos (by omega),rdS hx,nextS (show i < l.length by omega) (by omega)]
    rfl
   ·rw [set_take _ (by omega),ht,take_one hx]
 refine Ev.congr (fun k=>?_) (main l.length 0 (List.replicate l.length (⟨#[]⟩:ByteArray)) (by omega) (by simp) (by simp))
 unfold laws_toStringS.f
 rw [if_pos (by omega),if_pos (by simp;omega)]
 rfl
theorem eqStringS_ev (l:List ByteArray) (hl:l.length≤9223372036854775807):Ev (fun k=>laws_eqStringS.f k l l) true:=by
 have main:∀ (d i:Nat),i+d=l.length->Ev (fun k=>laws_eqStringS.l0 k l l (i:Int)) true:=by
  intro d
  induction d with
  | zero =>
   intro i hi
   refine Ev.step (f:=fun _=>some true) (fun k=>?_) (Ev.now _)
   simp only [laws_eqStringS.l0]
   rw [if_neg (by omega)]
  | succ d ih =>
   intro i hi
   refine Ev.step (fun k=>?_) (ih (i+1) (by omega))
   simp only [laws_eqStringS.l0]
   rw [if_pos (by omega),if_pos (by omega),if_pos (by omega),if_pos trivial,nextS (show i < l.length by omega) hl]
 refine Ev.congr (fun k=>?_) (main l.length 0 (by omega))
 unfold laws_eqStringS.f
 rw [if_pos rfl]
 rfl
theorem szLog_ev (l:List ByteArray) (n:Int) (s:ByteArray) (left:Int) (h0:0≤left) (h1:left≤1048576) (hl:l.length≤9223372036854775807) (hg:∀ x ∈ l,x.size≤9223372036854775807) (hs:s.size≤9223372036854775807) :
  ∃ r,Ev (fun k=>laws_szLog.f k l n s left) r∧(r < 0∨0≤r∧r+l.length+total l+s.size=left):=by
 obtain ⟨a,ha,hc⟩:=szStringS_ev l left h0 h1 hl hg
 unfold laws_szLog.f
 rcases hc with hc|⟨hc,hc1⟩
 ·exact ⟨-1,Ev.bind ha (Ev.pos hc (Ev.now _)),.inl (by omega)⟩
 ·have ht:=total_nonneg l
  obtain ⟨b,hb,hd⟩:=szHead_eq n s a hc (by omega) hs
  rcases hd with hd|⟨hd,hd1⟩
  ·exact ⟨-1,Ev.bind ha (Ev.neg (by omega) (Ev.bind (Ev.const hb) (Ev.pos hd (Ev.now _)))),.inl (by omega)⟩
  ·exact ⟨b,Ev.bind ha (Ev.neg (by omega) (Ev.bind (Ev.const hb) (Ev.neg (by omega) (Ev.now _)))),.inr ⟨hd,by omega⟩⟩
theorem toLog_ev (l:List ByteArray) (n:Int) (s:ByteArray) (hl:l.length≤1048576):Ev (fun k=>laws_toLog.f k l n s) (l,n,s):=by
 unfold laws_toLog.f
 refine Ev.bind (toStringS_ev l hl) ?_
 simp only [toHead_eq,Option.bind_some]
 exact Ev.now _
theorem eqLog_ev (l:List ByteArray) (n:Int) (s:ByteArray) (hl:l.length≤9223372036854775807):Ev (fun k=>laws_eqLog.f k l n s l n s) true:=by
 unfold laws_eqLog.f
 refine Ev.bind (eqStringS_ev l hl) (Ev.pos rfl ?_)
 refine Ev.bind (Ev.const (eqHead_eq n s)) ?_
 exact Ev.pos rfl (Ev.now _)
theorem nextB {i n:Nat} (h:i < n) (hn:n≤9223372036854775807):wrap64 ((i:Int) + 1)=((i+1:Nat):Int):=by
 rw [w64 (by omega) (by omega)]
 omega
theorem eqByteS_ev (l:List Int) (hl:l.length≤9223372036854775807):Ev (fun k=>laws_eqByteS.f k l l) true:=by
 have main:∀ (d i:Nat),i+d=l.length->Ev (fun k=>laws_eqByteS.l0 k l l (i:Int)) true:=by
  intro d
  induction d with
  | zero =>
   intro i hi
   refine Ev.step (f:=fun _=>some true) (fun k=>?_) (Ev.now _)
   simp only [laws_eqByteS.l0]
   rw [if_neg (by omega)]
  | succ d ih =>
   intro i hi
   refine Ev.step (fun k=>?_) (ih (i+1) (by omega))
   simp only [laws_eqByteS.l0]
   rw [if_pos (by omega),if_pos (by omega),if_pos (by omega),if_pos trivial,nextB (show i < l.length by omega) hl]
 refine Ev.congr (fun k=>?_) (main l.length 0 (by omega))
 unfold laws_eqByteS.f
 rw [if_pos rfl]
 rfl
def markB (a:Int) (n:Nat):List Int:=(List.range n).map fun (i:Nat)=>(a+(i:Int)) % 256
theorem markB_length (a:Int) (n:Nat):(markB a n).length=n:=by simp [markB]
theorem markB_succ (a:Int) (n:Nat):markB a (n+1)=markB a n ++ [(a+(n:Int)) % 256]:=by
 unfold markB
 rw [List.range_succ,List.map_append]
 rfl
theorem markB_get (a:Int) (n i:Nat) (h:i < n):(markB a n)[i]?=some ((a+(i:Int)) % 256):=by
 unfold markB
 rw [List.getElem?_map,List.getElem?_range h]
 rfl
theorem markByteS_ev (l:List Int) (a:Int) (h0:0≤a) (h1:a+l.length≤4611686018427387904):Ev (fun k=>laws_markByteS.f k l a) (a+(l.length:Int),markB a l.length):=by
 have main:∀ (d i:Nat) (acc:List Int),i+d=l.length->acc.length=l.length->acc.take i=markB a i->Ev (fun k=>laws_markByteS.l0 k acc (a+(i:Int)) (i:Int)) (a+(l.length:Int),markB a l.length):=by
  intro d
  induction d with
  | zero =>
   intro i acc hi ha ht
   have hil:i=l.length:=by omega
   subst hil
   rw [List.take_of_length_le (by omega)] at ht
   subst ht
   refine Ev.step (f:=fun _=>some (a+(l.length:Int),markB a l.length)) (fun k=>?_) (Ev.now _)
   simp only [laws_markByteS.l0]
   rw [if_neg (by omega)]
  | succ d ih =>
   intro i acc hi ha ht
   refine Ev.step (fun k=>?_) (ih (i+1) (acc.set i ((a+(i:Int)) % 256)) (by omega) (by simp [ha]) ?_)
   ·simp only [laws_markByteS.l0]
    rw [if_pos (by omega),if_pos (by omega),nextB (show i < l.length by omega) (by omega),w64 (x:=a+(i:Int) + 1) (by omega) (by omega)]
    have e:a+(i:Int) + 1=a+((i+1:Nat):Int):=by omega
    rw [e]
    rfl
   ·rw [set_take _ (by omega),ht,markB_succ]
 refine Ev.congr (fun k=>?_) (main l.length 0 l (by omega) rfl (by simp [markB]))
 unfold laws_markByteS.f
 congr 1
 omega
theorem heldByteS_ev (n:Nat) (a:Int) (h0:0≤a) (h1:a+n≤4611686018427387904):Ev (fun k=>laws_heldByteS.f k (markB a n) a) (a+(n:Int)):=by
 have main:∀ (d i:Nat),i+d=n->Ev (fun k=>laws_heldByteS.l0 k (markB a n) (a+(i:Int)) (i:Int)) (a+(n:Int)):=by
  intro d
  induction d with
  | zero =>
   intro i hi
   have hil:i=n:=by omega
   subst hil
   refine Ev.step (f:=fun _=>some (a+(i:Int))) (fun k=>?_) (Ev.now _)
   simp only [laws_heldByteS.l0]
   rw [if_neg (by rw [markB_length];omega)]
  | succ d ih =>
   intro i hi
   refine Ev.step (fun k=>?_) (ih (i+1) (by omega))
   simp only [laws_heldByteS.l0]
   rw [if_pos (by rw [markB_length];omega),if_pos (by omega),rd_at (markB_get a n i (by omega)),if_pos rfl,nextB (show i < n by omega) (by omega),w64 (x:=a+(i:Int) + 1) (by omega) (by omega)]
   congr 1
   omega
 refine Ev.congr (fun k=>?_) (main n 0 (by omega))
 unfold laws_heldByteS.f
 congr 1
 omega
theorem eqStore_ev (l:List ByteArray) (n:Int) (s:ByteArray) (b:List Int) (u:Int) (hl:l.length≤9223372036854775807) (hb:b.length≤9223372036854775807):Ev (fun k=>laws_eqStore.f k l n s b u l n s b u) true:=by
 unfold laws_eqStore.f
 exact Ev.bind (eqLog_ev l n s hl) (Ev.pos rfl (Ev.bind (eqByteS_ev b hb) (Ev.pos rfl (Ev.pos rfl (Ev.now _)))))
theorem szByteS_eq (l:List Int) (left:Int) (h0:0≤left) (h1:left≤1048576) (hl:l.length≤9223372036854775807) :
  ∃ r,laws_szByteS.f l left=some r∧(r < 0∨0≤r∧r+l.length=left):=by
 unfold laws_szByteS.f
 rw [w64 (by omega) (by omega)]
 by_cases h:left - (l.length:Int) < 0
 ·exact ⟨-1,if_pos h,.inl (by omega)⟩
 ·exact ⟨_,if_neg h,.inr ⟨by omega,by omega⟩⟩
theorem toByteS_ev (l:List Int) (hl:l.length≤1048576):Ev (fun k=>laws_toByteS.f k l) l:=by
 have main:∀ (d i:Nat) (acc:List Int),i+d=l.length->acc.length=l.length->acc.take i=l.take i->Ev (fun k=>laws_toByteS.l0 k l acc (i:Int)) l:=by
  intro d
  induction d with
  | zero =>
   intro i acc hi ha ht
   refine Ev.step (f:=fun _=>some l) (fun k=>?_) (Ev.now _)
   simp only [laws_toByteS.l0]
   rw [if_neg (by omega)]
   rw [List.take_of_length_le (by omega),List.take_of_length_le (by omega)] at ht
   rw [ht]
  | succ d ih =>
   intro i acc hi ha ht
   obtain ⟨x,hx⟩:=get_some (l:=l) (i:=i) (by omega)
   refine Ev.step (fun k=>?_) (ih (i+1) (acc.set i x) (by omega) (by simp [ha]) ?_)
   ·simp only [laws_toByteS.l0]
    rw [if_pos (by omega),if_pos (by omega),if_pos (by omega),rd_at hx,nextB (show i < l.length by omega) (by omega)]
    rfl
   ·rw [set_take _ (by omega),ht,take_one hx]
 refine Ev.congr (fun k=>?_) (main l.length 0 (List.replicate l.length 0) (by omega) (by simp) (by simp))
 unfold laws_toByteS.f
 rw [if_pos (by omega),if_pos (by simp;omega)]
 rfl
theorem szStore_ev (l:List ByteArray) (n:Int) (s:ByteArray) (b:List Int) (u:Int) (left:Int) (h0:0≤left) (h1:left≤1048576) (hl:l.length≤9223372036854775807) (hg:∀ x ∈ l,x.size≤9223372036854775807) (hs:s.size≤9223372036854775807) (hb:b.length≤9223372036854775807) :
  ∃ r,Ev (fun k=>laws_szStore.f k l n s b u left) r∧(r < 0∨0≤r∧r+l.length+total l+s.size+b.length=left):=by
 obtain ⟨a,ha,hc⟩:=szLog_ev l n s left h0 h1 hl hg hs
 unfold laws_szStore.f
 rcases hc with hc|⟨hc,hc1⟩
 ·exact ⟨-1,Ev.bind ha (Ev.pos hc (Ev.now _)),.inl (by omega)⟩
 ·have ht:=total_nonneg l
  obtain ⟨q,hq,hd⟩:=szByteS_eq b a hc (by omega) hb
  rcases hd with hd|⟨hd,hd1⟩
  ·exact ⟨-1,Ev.bind ha (Ev.neg (by omega) (Ev.bind (Ev.const hq) (Ev.pos hd (Ev.now _)))),.inl (by omega)⟩
  ·exact ⟨q,Ev.bind ha (Ev.neg (by omega) (Ev.bind (Ev.const hq) (Ev.neg (by omega) (Ev.now _)))),.inr ⟨hd,by omega⟩⟩
theorem toStore_ev (l:List ByteArray) (n:Int) (s:ByteArray) (b:List Int) (u:Int) (hl:l.length≤1048576) (hb:b.length≤1048576):Ev (fun k=>laws_toStore.f k l n s b u) (l,n,s,b,u):=by
 unfold laws_toStore.f
 exact Ev.bind (toLog_ev l n s hl) (Ev.bind (toByteS_ev b hb) (Ev.now _))
theorem szMirror_ev (i:Int) (l:List ByteArray) (n:Int) (s:ByteArray) (b:List Int) (u c:Int) (z:ByteArray) (left:Int) (h0:0≤left) (h1:left≤1048576) (hl:l.length≤9223372036854775807) (hg:∀ x ∈ l,x.size≤9223372036854775807) (hs:s.size≤9223372036854775807) (hb:b.length≤9223372036854775807) (hz:z.size≤9223372036854775807) :
  ∃ r,Ev (fun k=>laws_szMirror.f k i l n s b u c z left) r∧(r < 0∨0≤r∧r+l.length+total l+s.size+b.length+z.size=left):=by
 obtain ⟨a,ha,hc⟩:=szStore_ev l n s b u left h0 h1 hl hg hs hb
 unfold laws_szMirror.f
 rcases hc with hc|⟨hc,hc1⟩
 ·exact ⟨-1,Ev.bind ha (Ev.pos hc (Ev.now _)),.inl (by omega)⟩
 ·have ht:=total_nonneg l
  obtain ⟨q,hq,hc2⟩:=szHead_eq c z a hc (by omega) hz
  rcases hc2 with hc2|⟨hc2,hc3⟩
  ·exact ⟨-1,Ev.bind ha (Ev.neg (by omega) (Ev.bind (Ev.const hq) (Ev.pos hc2 (Ev.now _)))),.inl (by omega)⟩
  ·exact ⟨q,Ev.bind ha (Ev.neg (by omega) (Ev.bind (Ev.const hq) (Ev.neg (by omega) (Ev.now _)))),.inr ⟨hc2,by omega⟩⟩
theorem toMirror_ev (i:Int) (l:List ByteArray) (n:Int) (s:ByteArray) (b:List Int) (u c:Int) (z:ByteArray) (hl:l.length≤1048576) (hb:b.length≤1048576):Ev (fun k=>laws_toMirror.f k i l n s b u c z) (i,l,n,s,b,u,c,z):=by
 unfold laws_toMirror.f
 exact Ev.bind (toStore_ev l n s b u hl hb) (Ev.bind (Ev.const (toHead_eq c z)) (Ev.now _))
theorem eqMirror_ev (i:Int) (l:List ByteArray) (n:Int) (s:ByteArray) (b:List Int) (u c:Int) (z:ByteArray) (hl:l.length≤9223372036854775807) (hb:b.length≤9223372036854775807):Ev (fun k=>laws_eqMirror.f k i l n s b u c z i l n s b u c z) true:=by
 unfold laws_eqMirror.f
 exact Ev.pos rfl (Ev.bind (eqStore_ev l n s b u hl hb) (Ev.pos rfl (Ev.bind (Ev.const (eqHead_eq c z)) (Ev.pos rfl (Ev.now _)))))
theorem nums_one (x:Int):(strOfNums [x]).size=1:=by simp [strOfNums,ByteArray.size]
theorem markText_l0:∀ (n:Nat) (x:Int) (acc:ByteArray),0≤x->x≤n->(acc.size:Int) + x≤4611686018427387910->∃ t,Ev (fun k=>laws_markText.l0 k x acc) t:=by
 intro n
 induction n with
 | zero =>
  intro x acc h0 h1 h2
  refine ⟨_,Ev.step (f:=fun _=>some ((⟨#[109]⟩:ByteArray) ++ acc)) (fun k=>?_) (Ev.now _)⟩
  simp only [laws_markText.l0]
  rw [if_neg (by omega),if_pos (by omega)]
 | succ n ih =>
  intro x acc h0 h1 h2
  by_cases hx:x > 0
  ·have hd:Int.tdiv x 10=x / 10:=Int.tdiv_eq_ediv_of_nonneg h0
   have hsz:((strOfNums [(wrap64 (48+(Int.tmod x 10))) % 256]) ++ acc).size=1+acc.size:=by rw [ByteArray.size_append,nums_one]
   obtain ⟨t,ht⟩:=ih (x / 10) ((strOfNums [(wrap64 (48+(Int.tmod x 10))) % 256]) ++ acc) (by omega) (by omega) (by rw [hsz];omega)
   refine ⟨t,Ev.step (fun k=>?_) ht⟩
   simp only [laws_markText.l0]
   rw [if_pos hx]
   simp only [Option.bind_some]
   rw [nums_one,if_pos (by omega),hd,w64 (by omega) (by omega)]
  ·refine ⟨_,Ev.step (f:=fun _=>some ((⟨#[109]⟩:ByteArray) ++ acc)) (fun k=>?_) (Ev.now _)⟩
   simp only [laws_markText.l0]
   rw [if_neg hx,if_pos (by omega)]
theorem markText_ev (a:Int) (h:a≤4611686018427387904):∃ t,Ev (fun k=>laws_markText.f k a) t:=by
 unfold laws_markText.f
 by_cases h0:a≤0
 ·exact ⟨_,Ev.pos h0 (Ev.now _)⟩
 ·obtain ⟨t,ht⟩:=markText_l0 a.toNat a ⟨#[]⟩ (by omega) (by omega) (by rw [show (ByteArray.mk #[]).size=0 from rfl];omega)
  exact ⟨t,Ev.neg h0 ht⟩
def Marked (M:List ByteArray) (a:Int):Prop:=∀ i,i < M.length->∃ x,M[i]?=some x∧Ev (fun k=>laws_markText.f k (a+(i:Int))) x
theorem markStringS_ev (l:List ByteArray) (a:Int) (h0:0≤a) (h1:a+l.length≤4611686018427387904):∃ M,Ev (fun k=>laws_markStringS.f k l a) (a+(l.length:Int),M)∧M.length=l.length∧Marked M a:=by
 have main:∀ (d i:Nat) (acc:List ByteArray),i+d=l.length->acc.length=l.length->(∀ j,j < i->∃ x,acc[j]?=some x∧Ev (fun k=>laws_markText.f k (a+(j:Int))) x)->∃ M,Ev (fun k=>laws_markStringS.l0 k acc (a+(i:Int)) (i:Int)) (a+(l.length:Int),M)∧M.length=l.length∧Marked M a:=by
  intro d
  induction d with
  | zero =>
   intro i acc hi ha ht
   have hil:i=l.length:=by omega
   subst hil
   refine ⟨acc,Ev.step (f:=fun _=>some (a+(l.length:Int),acc)) (fun k=>?_) (Ev.now _),ha,fun j hj=>ht j (by omega)⟩
   simp only [laws_markStringS.l0]
   rw [if_neg (by omega)]
  | succ d ih =>
   intro i acc hi ha ht
   obtain ⟨x,hx⟩:=markText_ev (a+(i:Int)) (by omega)
   obtain ⟨M,hM,hl,hm⟩:=ih (i+1) (acc.set i x) (by omega) (by simp [ha]) (fun j hj=>by
    by_cases he:j=i
    ·subst he
     exact ⟨x,by rw [List.getElem?_set_self (by omega)],hx⟩
    ·rw [List.getElem?_set_ne (by omega)]
     exact ht j (by omega))
   refine ⟨M,?_,hl,hm⟩
   refine Ev.step (fun k=>by simp only [laws_markStringS.l0];rfl) ?_
   refine Ev.pos (by omega) (Ev.bind hx (Ev.pos (by omega) ?_))
   rw [nextS (show i < l.length by omega) (by omega),w64 (x:=a+(i:Int) + 1) (by omega) (by omega)]
   have e:a+(i:Int) + 1=a+((i+1:Nat):Int):=by omega
   rw [e]
   exact hM
 obtain ⟨M,hM,hl,hm⟩:=main l.length 0 l (by omega) rfl (fun j hj=>by omega)
 refine ⟨M,Ev.congr (fun k=>?_) hM,hl,hm⟩
 unfold laws_markStringS.f
 congr 1
 omega
theorem markLog_ev (l:List ByteArray) (n:Int) (s:ByteArray) (a:Int) (h0:0≤a) (h1:a+l.length≤4611686018427387904):∃ M,Ev (fun k=>laws_markLog.f k l n s a) (a+(l.length:Int),M)∧M.length=l.length∧Marked M a:=by
 obtain ⟨M,hM,hl,hm⟩:=markStringS_ev l a h0 h1
 refine ⟨M,?_,hl,hm⟩
 unfold laws_markLog.f
 exact Ev.bind hM (Ev.now _)
theorem markStore_ev (l:List ByteArray) (n:Int) (s:ByteArray) (b:List Int) (u:Int) (a:Int) (h0:0≤a) (h1:a+l.length+b.length≤4611686018427387904) :
  ∃ M,Ev (fun k=>laws_markStore.f k l n s b u a) (a+(l.length:Int) + (b.length:Int),M,markB (a+(l.length:Int)) b.length)∧M.length=l.length∧Marked M a:=by
 obtain ⟨M,hM,hl,hm⟩:=markLog_ev l n s a h0 (by omega)
 refine ⟨M,?_,hl,hm⟩
 unfold laws_markStore.f
 exact Ev.bind hM (Ev.bind (markByteS_ev b (a+(l.length:Int)) (by omega) (by omega)) (Ev.now _))
theorem markMirror_ev (i:Int) (l:List ByteArray) (n:Int) (s:ByteArray) (b:List Int) (u c:Int) (z:ByteArray) (a:Int) (h0:0≤a) (h1:a+l.length+b.length≤4611686018427387904) :
  ∃ M,Ev (fun k=>laws_markMirror.f k i l n s b u c z a) (a+(l.length:Int) + (b.length:Int),M,markB (a+(l.length:Int)) b.length)∧M.length=l.length∧Marked M a:=by
 obtain ⟨M,hM,hl,hm⟩:=markStore_ev l n s b u a h0 h1
 refine ⟨M,?_,hl,hm⟩
 unfold laws_markMirror.f
 exact Ev.bind hM (Ev.now _)
theorem heldStringS_ev (M:List ByteArray) (a:Int) (h0:0≤a) (h1:a+M.length≤4611686018427387904) (hm:Marked M a):Ev (fun k=>laws_heldStringS.f k M a) (a+(M.length:Int)):=by
 have main:∀ (d i:Nat),i+d=M.length->Ev (fun k=>laws_heldStringS.l0 k M (a+(i:Int)) (i:Int)) (a+(M.length:Int)):=by
  intro d
  induction d with
  | zero =>
   intro i hi
   have hil:i=M.length:=by omega
   subst hil
   refine Ev.step (f:=fun _=>some (a+(M.length:Int))) (fun k=>?_) (Ev.now _)
   simp only [laws_heldStringS.l0]
   rw [if_neg (by omega)]
  | succ d ih =>
   intro i hi
   obtain ⟨x,hx,hE⟩:=hm i (by omega)
   refine Ev.step (fun k=>by simp only [laws_heldStringS.l0];rfl) ?_
   have e:a+(i:Int) + 1=a+((i+1:Nat):Int):=by omega
   first
    | (refine Ev.pos (by omega) (Ev.pos (by omega) (Ev.bind hE ?_))
       rw [rdS hx,nextS (show i < M.length by omega) (by omega),w64 (x:=a+(i:Int) + 1) (by omega) (by omega),e]
       exact Ev.pos rfl (ih (i+1) (by omega)))
    | (refine Ev.pos (by omega) (Ev.bind hE ?_)
       refine Ev.pos (by omega) ?_
       rw [rdS hx,nextS (show i < M.length by omega) (by omega),w64 (x:=a+(i:Int) + 1) (by omega) (by omega),e]
       exact Ev.pos rfl (ih (i+1) (by omega)))
 refine Ev.congr (fun k=>?_) (main M.length 0 (by omega))
 unfold laws_heldStringS.f
 congr 1
 omega
theorem heldLog_ev (M:List ByteArray) (n:Int) (s:ByteArray) (a:Int) (h0:0≤a) (h1:a+M.length≤4611686018427387904) (hm:Marked M a):Ev (fun k=>laws_heldLog.f k M n s a) (a+(M.length:Int)):=by
 unfold laws_heldLog.f
 exact Ev.bind (heldStringS_ev M a h0 h1 hm) (Ev.neg (by omega) (Ev.now _))
theorem heldStore_ev (M:List ByteArray) (n:Int) (s:ByteArray) (b:Nat) (u:Int) (a:Int) (h0:0≤a) (h1:a+M.length+b≤4611686018427387904) (hm:Marked M a):Ev (fun k=>laws_heldStore.f k M n s (markB (a+(M.length:Int)) b) u a) (a+(M.length:Int) + (b:Int)):=by
 unfold laws_heldStore.f
 exact Ev.bind (heldLog_ev M n s a h0 (by omega) hm) (Ev.neg (by omega) (Ev.bind (heldByteS_ev b (a+(M.length:Int)) (by omega) (by omega)) (Ev.neg (by omega) (Ev.now _))))
theorem heldMirror_ev (i:Int) (M:List ByteArray) (n:Int) (s:ByteArray) (b:Nat) (u c:Int) (z:ByteArray) (a:Int) (h0:0≤a) (h1:a+M.length+b≤4611686018427387904) (hm:Marked M a):Ev (fun k=>laws_heldMirror.f k i M n s (markB (a+(M.length:Int)) b) u c z a) (a+(M.length:Int) + (b:Int)):=by
 unfold laws_heldMirror.f
 exact Ev.bind (heldStore_ev M n s b u a h0 h1 hm) (Ev.neg (by omega) (Ev.now _))
abbrev IHead:=S37
abbrev LHead:=S24
def cvHead (x:LHead):IHead:=⟨x.f0,x.f1⟩
theorem szHeadS_ev (l:List LHead) (left:Int) (h0:0≤left) (h1:left≤1048576) (hl:l.length≤9223372036854775807) (hg:∀ x ∈ l,x.f1.size≤9223372036854775807) :
  ∃ r,Ev (fun k=>laws_szHeadS.f k l left) r∧(r < 0∨0≤r∧r+l.length≤left∧∀ x ∈ l,(x.f1.size:Int)≤left):=by
 have main:∀ (d i:Nat) (q:Int),i+d=l.length->0≤q->q≤1048576->∃ r,Ev (fun k=>laws_szHeadS.l0 k l q (i:Int)) r∧(r < 0∨0≤r∧r≤q∧∀ x ∈ l.drop i,(x.f1.size:Int)≤q):=by
  intro d
  induction d with
  | zero =>
   intro i q hi hq hq1
   refine ⟨q,Ev.step (f:=fun _=>some q) (fun k=>?_) (Ev.now q),.inr ⟨hq,Int.le_refl _,?_⟩⟩
   ·simp only [laws_szHeadS.l0]
    rw [if_neg (by omega)]
   ·rw [List.drop_of_length_le (by omega)]
    exact fun x hx=>absurd hx (by simp)
  | succ d ih =>
   intro i q hi hq hq1
   obtain ⟨x,hx⟩:=get_some (l:=l) (i:=i) (by omega)
   have hm:x ∈ l:=List.mem_of_getElem? hx
   obtain ⟨r,hr,hc⟩:=szHead_eq x.f0 x.f1 q hq hq1 (hg x hm)
   have hrd:rd_T24 l (i:Int)=x:=by
    unfold rd_T24
    simp [List.getD_eq_getElem?_getD,hx]
   have hw:wrap64 ((i:Int) + 1)=((i+1:Nat):Int):=by
    rw [w64 (by omega) (by omega)]
    omega
   rcases hc with hc|⟨hc,hc2⟩
   ·refine ⟨-1,Ev.step (f:=fun _=>some (-1)) (fun k=>?_) (Ev.now _),.inl (by omega)⟩
    simp only [laws_szHeadS.l0]
    rw [if_pos (by omega),if_pos (by omega),hrd,hr]
    simp only [Option.bind_some]
    rw [if_pos hc]
   ·obtain ⟨r2,h2,h3⟩:=ih (i+1) r (by omega) hc (by omega)
    refine ⟨r2,Ev.step (fun k=>?_) h2,?_⟩
    ·simp only [laws_szHeadS.l0]
     rw [if_pos (by omega),if_pos (by omega),hrd,hr]
     simp only [Option.bind_some]
     rw [if_neg (by omega),hw]
    ·rcases h3 with h3|⟨h3,h4,h5⟩
     ·exact .inl h3
     ·refine .inr ⟨h3,by omega,fun y hy=>?_⟩
      rw [drop_one hx] at hy
      rcases List.mem_cons.1 hy with rfl|hy
      ·omega
      ·have:=h5 y hy
       omega
 have hw:wrap64 (left - (l.length:Int))=left - (l.length:Int):=w64 (by omega) (by omega)
 by_cases h:left - (l.length:Int) < 0
 ·refine ⟨-1,Ev.congr (fun k=>?_) (Ev.now (-1)),.inl (by omega)⟩
  unfold laws_szHeadS.f
  rw [hw,if_pos h]
 ·obtain ⟨r,h2,h3⟩:=main l.length 0 (left - l.length) (by omega) (by omega) (by omega)
  refine ⟨r,Ev.congr (fun k=>?_) h2,?_⟩
  ·unfold laws_szHeadS.f
   rw [hw,if_neg h]
   rfl
  ·rcases h3 with h3|⟨h3,h4,h5⟩
   ·exact .inl h3
   ·refine .inr ⟨h3,by omega,fun x hx=>?_⟩
    have:=h5 x (by simpa using hx)
    omega
theorem toHeadS_ev (l:List LHead) (hl:l.length≤1048576):Ev (fun k=>laws_toHeadS.f k l) (l.map cvHead):=by
 have main:∀ (d i:Nat) (acc:List IHead),i+d=l.length->acc.length=l.length->acc.take i=(l.take i).map cvHead->Ev (fun k=>laws_toHeadS.l0 k l acc (i:Int)) (l.map cvHead):=by
  intro d
  induction d with
  | zero =>
   intro i acc hi ha ht
   refine Ev.step (f:=fun _=>some (l.map cvHead)) (fun k=>?_) (Ev.now _)
   simp only [laws_toHeadS.l0]
   rw [if_neg (by omega)]
   rw [List.take_of_length_le (by omega),List.take_of_length_le (by omega)] at ht
   rw [ht]
  | succ d ih =>
   intro i acc hi ha ht
   obtain ⟨x,hx⟩:=get_some (l:=l) (i:=i) (by omega)
   have hrd:rd_T24 l (i:Int)=x:=by
    unfold rd_T24
    simp [List.getD_eq_getElem?_getD,hx]
   have hw:wrap64 ((i:Int) + 1)=((i+1:Nat):Int):=by
    rw [w64 (by omega) (by omega)]
    omega
   refine Ev.step (fun k=>?_) (ih (i+1) (acc.set i (cvHead x)) (by omega) (by simp [ha]) ?_)
   ·simp only [laws_toHeadS.l0]
    rw [if_pos (by omega),if_pos (by omega),hrd,toHead_eq]
    simp only [Option.bind_some]
    rw [if_pos (by omega),hw]
    rfl
   ·rw [set_take _ (by omega),ht,take_one hx,List.map_append]
    rfl
 refine Ev.congr (fun k=>?_) (main l.length 0 (List.replicate l.length z37) (by omega) (by simp) (by simp))
 unfold laws_toHeadS.f
 rw [if_pos (by omega),if_pos (by simp;omega)]
 rfl
theorem eqHeadS_ev (l:List IHead) (hl:l.length≤9223372036854775807):Ev (fun k=>laws_eqHeadS.f k l l) true:=by
 have main:∀ (d i:Nat),i+d=l.length->Ev (fun k=>laws_eqHeadS.l0 k l l (i:Int)) true:=by
  intro d
  induction d with
  | zero =>
   intro i hi
   refine Ev.step (f:=fun _=>some true) (fun k=>?_) (Ev.now _)
   simp only [laws_eqHeadS.l0]
   rw [if_neg (by omega)]
  | succ d ih =>
   intro i hi
   have hw:wrap64 ((i:Int) + 1)=((i+1:Nat):Int):=by
    rw [w64 (by omega) (by omega)]
    omega
   refine Ev.step (fun k=>?_) (ih (i+1) (by omega))
   simp only [laws_eqHeadS.l0]
   rw [if_pos (by omega),if_pos (by omega),if_pos (by omega),eqHead_eq]
   simp only [Option.bind_some,if_true]
   rw [hw]
 refine Ev.congr (fun k=>?_) (main l.length 0 (by omega))
 unfold laws_eqHeadS.f
 rw [if_pos rfl]
 rfl
theorem markHeadS_ev (l:List S37) (a:Int) (h0:0≤a) (h1:a+2 * l.length≤4611686018427387904):∃ M,Ev (fun k=>laws_markHeadS.f k l a) (a+2 * (l.length:Int),M):=by
 have main:∀ (d i:Nat) (acc:List S37),i+d=l.length->acc.length=l.length->∃ M,Ev (fun k=>laws_markHeadS.l0 k acc (a+2 * (i:Int)) (i:Int)) (a+2 * (l.length:Int),M):=by
  intro d
  induction d with
  | zero =>
   intro i acc hi ha
   have hil:i=l.length:=by omega
   subst hil
   refine ⟨acc,Ev.step (f:=fun _=>some (a+2 * (l.length:Int),acc)) (fun k=>?_) (Ev.now _)⟩
   simp only [laws_markHeadS.l0]
   rw [if_neg (by omega)]
  | succ d ih =>
   intro i acc hi ha
   obtain ⟨x,hx⟩:=markText_ev (a+2 * (i:Int) + 1) (by omega)
   obtain ⟨M,hM⟩:=ih (i+1) ((acc.set i ⟨a+2 * (i:Int),(rd_T37 acc i).f1⟩).set i ⟨(rd_T37 (acc.set i ⟨a+2 * (i:Int),(rd_T37 acc i).f1⟩) i).f0,x⟩) (by omega) (by simp [ha])
   refine ⟨M,?_⟩
   refine Ev.step (fun k=>by simp only [laws_markHeadS.l0];rfl) ?_
   refine Ev.pos (by omega) (Ev.pos (by omega) (Ev.bind (Ev.now _) ?_))
   rw [nextS (show i < l.length by omega) (by omega),w64 (x:=a+2 * (i:Int) + 1) (by omega) (by omega),w64 (x:=a+2 * (i:Int) + 1+1) (by omega) (by omega)]
   have e:a+2 * (i:Int) + 1+1=a+2 * ((i+1:Nat):Int):=by omega
   rw [e]
   exact Ev.bind hx hM
 obtain ⟨M,hM⟩:=main l.length 0 l (by omega) rfl
 refine ⟨M,Ev.congr (fun k=>?_) hM⟩
 unfold laws_markHeadS.f
 congr 1
 omega
theorem int_bytes {l:List Int} (h:∀ y ∈ l,(Lit.int .u8 y).wf=true):∀ x ∈ l,0≤x∧x≤255:=fun x hx=>by
 have:=h x hx
 simp only [Lit.wf,IntKind.min,IntKind.max,IntKind.signed,IntKind.bits,Bool.and_eq_true,decide_eq_true_eq,Bool.false_eq_true,if_false] at this
 omega
def zerosOf (n:Nat):Nat:=(119 - n % 64) % 64
def tailBytes (n:Int):Nat->List Int
 | 0=>[]
 | j+1=>(shr .i64 n (8 * (j:Int))) % 256 :: tailBytes n j
def len8 (n:Int):List Int:=tailBytes n 8
theorem tailBytes_length (n:Int) (j:Nat):(tailBytes n j).length=j:=by
 induction j with
 | zero=>rfl
 | succ j ih=>simp [tailBytes,ih]
theorem tailBytes_bytes (n:Int) (j:Nat):∀ x ∈ tailBytes n j,0≤x∧x≤255:=by
 induction j with
 | zero=>simp [tailBytes]
 | succ j ih =>
  intro x hx
  rcases List.mem_cons.1 hx with rfl|hx
  ·omega
  ·exact ih x hx
def padL (l:List Int):List Int:=l ++ [128] ++ List.replicate (zerosOf l.length) 0 ++ len8 (8 * l.length)
theorem padL_length (l:List Int):(padL l).length % 64=0:=by
 simp [padL,len8,tailBytes_length,zerosOf]
 omega
theorem padL_bytes (l:List Int) (h:∀ x ∈ l,0≤x∧x≤255):∀ x ∈ padL l,0≤x∧x≤255:=by
 intro x hx
 simp only [padL,len8,List.mem_append,List.mem_replicate] at hx
 rcases hx with ((hx|hx)|hx)|hx
 ·exact h x hx
 ·simp at hx
  omega
 ·omega
 ·exact tailBytes_bytes _ _ x hx
theorem padL_size (l:List Int):(padL l).length≤l.length+72:=by
 simp [padL,len8,tailBytes_length,zerosOf]
 omega
theorem u64_eight (j:Nat) (hj:j≤7):IntKind.u64.wrap (wrap64 (8 * (j:Int)))=8 * (j:Int):=by
 rw [w64 (by omega) (by omega),IntWalk.u64_in _ ⟨by omega,by omega⟩]
theorem padded_l1 (n:Int):∀ (j:Nat) (acc:List Int),j≤8->acc.length+j≤140737488355320->Ev (fun k=>impl_Padded.l1 k acc n ((j:Int) - 1)) (acc ++ tailBytes n j):=by
 intro j
 induction j with
 | zero =>
  intro acc _ _
  refine Ev.step (f:=fun _=>some acc) (fun k=>?_) (Ev.one (Ev.now _) (by simp [tailBytes]))
  simp only [impl_Padded.l1]
  rw [if_neg (by omega)]
 | succ j ih =>
  intro acc h1 h2
  refine Ev.step (fun k=>?_) (Ev.one (ih (acc ++ [(shr .i64 n (8 * (j:Int))) % 256]) (by omega) (by simp;omega)) (by simp [tailBytes]))
  simp only [impl_Padded.l1]
  have hj:(((j+1:Nat):Int) - 1)=(j:Int):=by omega
  rw [hj,if_pos (by omega),u64_eight j (by omega),if_pos (by omega),if_pos (by omega),w64 (by omega) (by omega)]
theorem padded_l0 (l:List Int) (hl:l.length≤1099511627776):∀ (d i:Nat) (acc:List Int),i+d=zerosOf l.length->acc=l ++ [128] ++ List.replicate i 0->Ev (fun k=>impl_Padded.l0 k l acc) (padL l):=by
 intro d
 induction d with
 | zero =>
  intro i acc hi ha
  have hlen:acc.length=l.length+1+i:=by rw [ha];simp;omega
  have hz:zerosOf l.length=(119 - l.length % 64) % 64:=rfl
  refine Ev.step (fun k=>?_) (Ev.one (padded_l1 (8 * (l.length:Int)) 8 acc (by omega) (by omega)) ?_)
  ·simp only [impl_Padded.l0]
   rw [w64 (by omega) (by omega),Int.tmod_eq_emod_of_nonneg (by omega),if_pos (by omega),w64 (by omega) (by omega)]
   rfl
  ·rw [ha,show i=zerosOf l.length from by omega]
   rfl
 | succ d ih =>
  intro i acc hi ha
  have hlen:acc.length=l.length+1+i:=by rw [ha];simp;omega
  have hz:zerosOf l.length=(119 - l.length % 64) % 64:=rfl
  refine Ev.step (fun k=>?_) (ih (i+1) (acc ++ [0]) (by omega) (by rw [ha,List.append_assoc (l ++ [128])];congr 1;rw [List.replicate_succ']))
  simp only [impl_Padded.l0]
  rw [w64 (by omega) (by omega),Int.tmod_eq_emod_of_nonneg (by omega),if_neg (by omega),if_pos (by omega)]
theorem impl_Padded_ev (l:List Int) (hl:l.length≤1099511627776):Ev (fun k=>impl_Padded.f k l) (padL l):=by
 refine Ev.congr (fun k=>?_) (padded_l0 l hl (zerosOf l.length) 0 (l ++ [128]) (by omega) (by simp))
 unfold impl_Padded.f slices_Clone_byte_byte.f
 rw [if_pos (by omega)]
 simp only [Option.bind_some]
 rw [if_pos (by omega)]
theorem nextC {i n:Nat} (h:i < n) (hn:n≤9223372036854775807):wrap64 ((i:Int) + 1)=((i+1:Nat):Int):=by
 rw [w64 (by omega) (by omega)]
 omega
theorem spec_same_ev (a b:List ByteArray) (ha:a.length≤9223372036854775807):Ev (fun k=>spec_l8Same.f k a b) (decide (a=b)):=by
 unfold spec_l8Same.f
 by_cases hl:a.length=b.length
 ·have main:∀ (d i:Nat),i+d=a.length->a.take i=b.take i->Ev (fun k=>spec_l8Same.l0 k a b (i:Int)) (decide (a=b)):=by
   intro d
   induction d with
   | zero =>
    intro i hi ht
    rw [List.take_of_length_le (by omega),List.take_of_length_le (by omega)] at ht
    rw [decide_eq_true ht]
    refine Ev.step (fun k=>by simp only [spec_l8Same.l0];rfl) ?_
    exact Ev.neg (by omega) (Ev.now _)
   | succ d ih =>
    intro i hi ht
    obtain ⟨x,hx⟩:=get_some (l:=a) (i:=i) (by omega)
    obtain ⟨y,hy⟩:=get_some (l:=b) (i:=i) (by omega)
    refine Ev.step (fun k=>by simp only [spec_l8Same.l0];rfl) ?_
    rw [rdOf_at hx,rdOf_at hy,nextC (show i < a.length by omega) ha]
    by_cases h:x.toList=y.toList
    ·have e:=bytes_ext h
     subst e
     exact Ev.pos (by omega) (Ev.pos (by omega) (Ev.pos (by omega) (Ev.pos rfl (ih (i+1) (by omega) (by rw [take_one hx,take_one hy,ht])))))
    ·have hn:¬ a=b:=by
      intro e
      subst e
      rw [hx] at hy
      exact h (by rw [Option.some.inj hy])
     rw [decide_eq_false hn]
     exact Ev.pos (by omega) (Ev.pos (by omega) (Ev.pos (by omega) (Ev.neg h (Ev.now _))))
  exact Ev.pos (by omega) (main a.length 0 (by omega) (by simp))
 ·have hn:¬ a=b:=fun e=>hl (by rw [e])
  rw [decide_eq_false hn]
  exact Ev.neg (by omega) (Ev.now _)
theorem impl_same_ev (a b:List ByteArray) (ha:a.length≤9223372036854775807):Ev (fun k=>slices_Equal_string_string.f k a b) (decide (a=b)):=by
 unfold slices_Equal_string_string.f
 by_cases hl:a.length=b.length
 ·have main:∀ (d i:Nat),i+d=a.length->a.take i=b.take i->Ev (fun k=>slices_Equal_string_string.l0 k a b (a.length:Int) (i:Int)) (decide (a=b)):=by
   intro d
   induction d with
   | zero =>
    intro i hi ht
    rw [List.take_of_length_le (by omega),List.take_of_length_le (by omega)] at ht
    rw [decide_eq_true ht]
    refine Ev.step (fun k=>by simp only [slices_Equal_string_string.l0];rfl) ?_
    exact Ev.neg (by omega) (Ev.now _)
   | succ d ih =>
    intro i hi ht
    obtain ⟨x,hx⟩:=get_some (l:=a) (i:=i) (by omega)
    obtain ⟨y,hy⟩:=get_some (l:=b) (i:=i) (by omega)
    refine Ev.step (fun k=>by simp only [slices_Equal_string_string.l0];rfl) ?_
    rw [rdOf_at hx,rdOf_at hy,nextC (show i < a.length by omega) ha]
    by_cases h:x.toList=y.toList
    ·have e:=bytes_ext h
     subst e
     exact Ev.pos (by omega) (Ev.pos (by omega) (Ev.pos (by omega) (Ev.pos (by omega) (Ev.pos rfl (ih (i+1) (by omega) (by rw [take_one hx,take_one hy,ht]))))))
    ·have hn:¬ a=b:=by
      intro e
      subst e
      rw [hx] at hy
      exact h (by rw [Option.some.inj hy])
     rw [decide_eq_false hn]
     exact Ev.pos (by omega) (Ev.pos (by omega) (Ev.pos (by omega) (Ev.pos (by omega) (Ev.neg h (Ev.now _)))))
  exact Ev.pos (by omega) (main a.length 0 (by omega) (by simp))
 ·have hn:¬ a=b:=fun e=>hl (by rw [e])
  rw [decide_eq_false hn]
  exact Ev.neg (by omega) (Ev.now _)
def hasHead (l:List IHead) (a:Int) (b:ByteArray):Bool:=l.any fun x=>x.f0 == a && (x.f1.toList == b.toList)
theorem rdI {l:List IHead} {i:Nat} {x:IHead} (h:l[i]?=some x):rd_T37 l (i:Int)=x:=by
 unfold rd_T37
 simp [List.getD_eq_getElem?_getD,h]
theorem next64 {i n:Nat} (h:i < n) (hn:n≤9223372036854775807):wrap64 ((i:Int) + 1)=((i+1:Nat):Int):=by
 rw [w64 (by omega) (by omega)]
 omega
theorem spec_IsSigned_ev (l:List IHead) (a:Int) (b:ByteArray) (hl:l.length≤9223372036854775807):Ev (fun k=>spec_IsSigned.f k l a b) (hasHead l a b):=by
 have main:∀ (d i:Nat),i+d=l.length->Ev (fun k=>spec_IsSigned.l0 k l (i:Int) a b) (hasHead (l.drop i) a b):=by
  intro d
  induction d with
  | zero =>
   intro i hi
   refine Ev.step (f:=fun _=>some false) (fun k=>?_) (Ev.one (Ev.now _) ?_)
   ·simp only [spec_IsSigned.l0]
    rw [if_neg (by omega)]
   ·rw [List.drop_of_length_le (by omega)]
    rfl
  | succ d ih =>
   intro i hi
   obtain ⟨x,hx⟩:=get_some (l:=l) (i:=i) (by omega)
   by_cases h:(x.f0 == a && (x.f1.toList == b.toList))=true
   ·refine Ev.step (f:=fun _=>some true) (fun k=>?_) (Ev.one (Ev.now _) ?_)
    ·simp only [spec_IsSigned.l0]
     rw [if_pos (by omega),if_pos (by omega),rdI hx,if_pos h]
    ·rw [drop_one hx]
     simp only [hasHead,List.any_cons,h,Bool.true_or]
   ·refine Ev.step (fun k=>?_) (Ev.one (ih (i+1) (by omega)) ?_)
    ·simp only [spec_IsSigned.l0]
     rw [if_pos (by omega),if_pos (by omega),rdI hx,if_neg h,next64 (show i < l.length by omega) hl]
    ·rw [drop_one hx]
     simp only [hasHead,List.any_cons,Bool.eq_false_iff.mpr h,Bool.false_or]
 exact main l.length 0 (by omega)
theorem impl_Index_ev (l:List IHead) (a:Int) (b:ByteArray) (hl:l.length≤9223372036854775807):∃ r,Ev (fun k=>impl_Head_152.f k l a b) r∧decide (r ≥ 0)=hasHead l a b:=by
 have main:∀ (d i:Nat),i+d=l.length->∃ r,Ev (fun k=>impl_Head_152.l0 k l (l.length:Int) (i:Int) a b) r∧decide (r ≥ 0)=hasHead (l.drop i) a b:=by
  intro d
  induction d with
  | zero =>
   intro i hi
   refine ⟨-1,Ev.step (f:=fun _=>some (-1)) (fun k=>?_) (Ev.now _),?_⟩
   ·simp only [impl_Head_152.l0]
    rw [if_neg (by omega)]
   ·rw [List.drop_of_length_le (by omega)]
    rfl
  | succ d ih =>
   intro i hi
   obtain ⟨x,hx⟩:=get_some (l:=l) (i:=i) (by omega)
   have hsym:(a == x.f0 && (b.toList == x.f1.toList))=(x.f0 == a && (x.f1.toList == b.toList)):=by
    rw [Bool.beq_comm (a:=a),Bool.beq_comm (a:=b.toList)]
   by_cases h:(x.f0 == a && (x.f1.toList == b.toList))=true
   ·refine ⟨(i:Int),Ev.step (f:=fun _=>some (i:Int)) (fun k=>?_) (Ev.now _),?_⟩
    ·simp only [impl_Head_152.l0]
     rw [if_pos (by omega),if_pos (by omega),if_pos (by omega),rdI hx,hsym,if_pos h]
    ·rw [drop_one hx]
     simp only [hasHead,List.any_cons,h,Bool.true_or]
     exact decide_eq_true (by omega)
   ·obtain ⟨r,h1,h2⟩:=ih (i+1) (by omega)
    refine ⟨r,Ev.step (fun k=>?_) h1,?_⟩
    ·simp only [impl_Head_152.l0]
     rw [if_pos (by omega),if_pos (by omega),if_pos (by omega),rdI hx,hsym,if_neg h,next64 (show i < l.length by omega) hl]
    ·rw [h2,drop_one hx]
     simp only [hasHead,List.any_cons,Bool.eq_false_iff.mpr h,Bool.false_or]
 obtain ⟨r,h1,h2⟩:=main l.length 0 (by omega)
 exact ⟨r,h1,h2⟩
theorem impl_IsSigned_ev (l:List IHead) (a:Int) (b:ByteArray) (hl:l.length≤9223372036854775807):Ev (fun k=>impl_IsSigned.f k l a b) (hasHead l a b):=by
 obtain ⟨r,h1,h2⟩:=impl_Index_ev l a b hl
 refine Ev.congr (fun k=>by unfold impl_IsSigned.f impl_Head_129.f;rfl) ?_
 refine Ev.bind (Ev.bind h1 (Ev.now _)) ?_
 rw [h2]
 exact Ev.now _
theorem impl_copyLog_eq (l:List ByteArray) (n:Int) (s:ByteArray) (hl:l.length < 8796093022208):impl_copyLog.f l n s=some (l,n,s):=by
 unfold impl_copyLog.f slices_Clone_string_string.f
 rw [if_pos (by omega)]
 rfl
theorem spec_l11Copy_eq (l:List ByteArray) (n:Int) (s:ByteArray) (hl:l.length < 8796093022208):spec_l11Copy.f l n s=some (l,n,s):=by
 unfold spec_l11Copy.f
 simp only [Option.bind_some,List.length_nil,List.nil_append]
 rw [if_pos (by omega)]
theorem impl_copyStore_eq (l:List ByteArray) (n:Int) (s:ByteArray) (b:List Int) (u:Int) (hl:l.length < 8796093022208) (hb:b.length < 140737488355328):impl_copyStore.f l n s b u=some (l,n,s,b,u):=by
 unfold impl_copyStore.f slices_Clone_byte_byte.f
 rw [impl_copyLog_eq l n s hl,if_pos (show b.length≤140737488355328 by omega)]
 rfl
theorem spec_l12Copy_eq (l:List ByteArray) (n:Int) (s:ByteArray) (b:List Int) (u:Int) (hl:l.length < 8796093022208) (hb:b.length < 140737488355328):spec_l12Copy.f l n s b u=some (l,n,s,b,u):=by
 unfold spec_l12Copy.f
 rw [spec_l11Copy_eq l n s hl]
 simp only [Option.bind_some,List.length_nil,List.nil_append]
 rw [if_pos (by omega)]
theorem one64:wrap64 (0+1)=1:=by rw [w64 (by omega) (by omega)];rfl
theorem two64:wrap64 (1+1)=2:=by rw [w64 (by omega) (by omega)];rfl
theorem concat_l1 (a b:List ByteArray) (h:a.length+b.length≤1000000000):Ev (fun k=>slices_Concat_string_string.l1 k [] [a,b] 2 0) (a ++ b):=by
 have ea:rd_L5 [a,b] 0=a:=rfl
 have eb:rd_L5 [a,b] 1=b:=rfl
 refine Ev.step (fun k=>by simp only [slices_Concat_string_string.l1];rfl) ?_
 rw [ea,one64]
 refine Ev.pos (by omega) (Ev.pos (by omega) (Ev.pos (by simp) (Ev.pos (by simp;omega) ?_)))
 refine Ev.step (fun k=>by simp only [slices_Concat_string_string.l1];rfl) ?_
 rw [eb,two64]
 refine Ev.pos (by omega) (Ev.pos (by omega) (Ev.pos (by simp) (Ev.pos (by simp;omega) ?_)))
 refine Ev.step (fun k=>by simp only [slices_Concat_string_string.l1];rfl) ?_
 exact Ev.neg (by omega) (Ev.one (Ev.now _) rfl)
theorem concat_ev (a b:List ByteArray) (h:a.length+b.length≤1000000000) (h1:1≤a.length+b.length):Ev (fun k=>slices_Concat_string_string.f k [a,b]) (a ++ b):=by
 have ea:rd_L5 [a,b] 0=a:=rfl
 have eb:rd_L5 [a,b] 1=b:=rfl
 have e2:(([a,b]:List (List ByteArray)).length:Int)=2:=rfl
 have hg:slices_Grow_string_string.f [] ((a.length:Int) + (b.length:Int))=some []:=by
  unfold slices_Grow_string_string.f
  rw [if_pos ⟨rfl,by omega,by omega⟩]
 unfold slices_Concat_string_string.f
 refine Ev.step (fun k=>by simp only [slices_Concat_string_string.l0];rfl) ?_
 rw [ea,e2,w64 (x:=0+(a.length:Int)) (by omega) (by omega),one64,Int.zero_add]
 refine Ev.pos (by omega) (Ev.pos (by omega) (Ev.pos (by omega) (Ev.neg (by omega) ?_)))
 refine Ev.step (fun k=>by simp only [slices_Concat_string_string.l0];rfl) ?_
 rw [eb,e2,w64 (x:=(a.length:Int) + (b.length:Int)) (by omega) (by omega),two64]
 refine Ev.pos (by omega) (Ev.pos (by omega) (Ev.pos (by omega) (Ev.neg (by omega) ?_)))
 refine Ev.step (fun k=>by simp only [slices_Concat_string_string.l0];rfl) ?_
 rw [e2]
 exact Ev.neg (by omega) (Ev.bind (Ev.const hg) (concat_l1 a b h))
theorem mx_eq (a b:Int):mx a b=max a b:=by
 unfold mx
 by_cases h:a < b
 ·rw [if_pos h]
  omega
 ·rw [if_neg h]
  omega
theorem mn_eq (a b:Int):mn a b=min a b:=by
 unfold mn
 by_cases h:b < a
 ·rw [if_pos h]
  omega
 ·rw [if_neg h]
  omega
def fallAt (n s keep:Int):Int:=s+min (max keep 0) (n - s)
def fallOf (b:List Int) (sure keep:Int):List Int:=b.take (fallAt b.length (max 0 (min sure b.length)) keep).toNat
theorem impl_FallStore_eq (l:List ByteArray) (n:Int) (r:ByteArray) (b:List Int) (u keep:Int) (hb:b.length≤1048576):impl_FallStore.f l n r b u keep=some (fallOf b u keep):=by
 unfold impl_FallStore.f fallOf fallAt
 simp only [mx_eq,mn_eq]
 rw [w64 (x:=(b.length:Int) - max 0 (min u (b.length:Int))) (by omega) (by omega),w64 (x:=max 0 (min u (b.length:Int)) + min (max keep 0) ((b.length:Int) - max 0 (min u (b.length:Int)))) (by omega) (by omega)]
 rw [if_pos (by omega),if_pos (by omega)]
 unfold slices_Clone_byte_byte.f
 rw [if_pos (by simp;omega)]
 rfl
theorem fall_j1 (l:List ByteArray) (n:Int) (r:ByteArray) (b:List Int) (u keep s:Int) (hb:b.length≤1048576) (h0:0≤s) (h1:s≤b.length):Ev (fun k=>spec_FallStore.j1 k keep s l n r b u) (b.take (fallAt b.length s keep).toNat):=by
 refine Ev.step (fun k=>by simp only [spec_FallStore.j1];rfl) ?_
 rw [w64 (x:=(b.length:Int) - s) (by omega) (by omega),w64 (x:=s+((b.length:Int) - s)) (by omega) (by omega)]
 by_cases hk:keep > 0
 ·refine Ev.pos hk ?_
  by_cases hk2:keep > (b.length:Int) - s
  ·refine Ev.pos hk2 (Ev.bind (Ev.now _) (Ev.pos (by omega) (Ev.pos (by omega) (Ev.pos (by simp;omega) (Ev.one (Ev.now _) ?_)))))
   rw [List.nil_append]
   congr 1
   unfold fallAt
   omega
  ·rw [w64 (x:=s+keep) (by omega) (by omega)]
   refine Ev.neg hk2 (Ev.bind (Ev.now _) (Ev.pos (by omega) (Ev.pos (by omega) (Ev.pos (by simp;omega) (Ev.one (Ev.now _) ?_)))))
   rw [List.nil_append]
   congr 1
   unfold fallAt
   omega
 ·refine Ev.neg hk (Ev.bind (Ev.now _) (Ev.pos (by omega) (Ev.pos (by omega) (Ev.pos (by simp;omega) (Ev.one (Ev.now _) ?_)))))
  rw [List.nil_append]
  congr 1
  unfold fallAt
  omega
theorem fall_j0 (l:List ByteArray) (n:Int) (r:ByteArray) (b:List Int) (u keep s:Int) (hb:b.length≤1048576) (h0:0≤s):Ev (fun k=>spec_FallStore.j0 k keep s l n r b u) (b.take (fallAt b.length (min s b.length) keep).toNat):=by
 refine Ev.step (fun k=>by simp only [spec_FallStore.j0];rfl) ?_
 by_cases h:s > (b.length:Int)
 ·refine Ev.pos h (Ev.one (fall_j1 l n r b u keep b.length hb (by omega) (by omega)) ?_)
  rw [show min s (b.length:Int)=b.length by omega]
 ·refine Ev.neg h (Ev.one (fall_j1 l n r b u keep s hb (by omega) (by omega)) ?_)
  rw [show min s (b.length:Int)=s by omega]
theorem spec_FallStore_ev (l:List ByteArray) (n:Int) (r:ByteArray) (b:List Int) (u keep:Int) (hb:b.length≤1048576):Ev (fun k=>spec_FallStore.f k l n r b u keep) (fallOf b u keep):=by
 unfold spec_FallStore.f fallOf
 by_cases h:u < 0
 ·refine Ev.pos h (Ev.one (fall_j0 l n r b u keep 0 hb (by omega)) ?_)
  congr 3
  omega
 ·refine Ev.neg h (Ev.one (fall_j0 l n r b u keep u hb (by omega)) ?_)
  congr 3
  omega
end Go.Proofs.YtnlndmoecljicaaGreat.Q
end
section
namespace Go.Proofs.YtnlndmoecljicaaGreat.Q
open Go.Proofs.YtnlndmoecljicaaGreatW.PrintLast Go.Proofs.YtnlndmoecljicaaGreatW.PrintMore Go.Proofs.YtnlndmoecljicaaGreatW.PrintWords Go.RowKit Go.Shelf
set_option maxHeartbeats 8000000
set_option maxRecDepth 100000
def shaK:List Int:=[1116352408,1899447441,3049323471,3921009573,961987163,1508970993,2453635748,2870763221,3624381080,310598401,607225278,1426881987,1925078388,2162078206,2614888103,3248222580,3835390401,4022224774,264347078,604807628,770255983,1249150122,1555081692,1996064986,2554220882,2821834349,2952996808,3210313671,3336571891,3584528711,113926993,338241895,666307205,773529912,1294757372,1396182291,1695183700,1986661051,2177026350,2456956037,2730485921,2820302411,3259730800,3345764771,3516065817,3600352804,4094571909,275423344,430227734,506948616,659060556,883997877,958139571,1322822218,1537002063,1747873779,1955562222,2024104815,2227730452,2361852424,2428436474,2756734187,3204031479,3329325298]
def shaH:List Int:=[1779033703,3144134277,1013904242,2773480762,1359893119,2600822924,528734635,1541459225]
def blockAt (p:List Int) (x:Nat):List Int:=(p.drop x).take 64
def foldAt (p:List Int) (xs:List Nat):List Int:=xs.foldl (fun h x=>turned shaK (blockAt p x) h) shaH
theorem foldAt_snoc (p:List Int) (xs:List Nat) (x:Nat):foldAt p (xs ++ [x])=turned shaK (blockAt p x) (foldAt p xs):=by simp [foldAt]
theorem turned_length (ks bs hs:List Int):(turned ks bs hs).length=hs.length:=addAt_length _ _ _
theorem foldAt_length (p:List Int) (xs:List Nat):(foldAt p xs).length=8:=by
 have main:∀ (xs:List Nat) (h:List Int),h.length=8->(xs.foldl (fun h x=>turned shaK (blockAt p x) h) h).length=8:=by
  intro xs
  induction xs with
  | nil=>exact fun h hh=>hh
  | cons x xs ih=>exact fun h hh=>ih _ (by rw [turned_length];exact hh)
 exact main xs shaH rfl
def wordBytes (x:Int):List Int:=[x / 16777216 % 256,x / 65536 % 256,x / 256 % 256,x % 256]
def outBytes (hs:List Int) (k:Nat):List Int:=(hs.take k).flatMap wordBytes
def shaBytes (l:List Int):List Int:=outBytes (foldAt (padL l) (starts ((padL l).length / 64))) 8
def sha (l:List Int):ByteArray:=strOfNums (shaBytes l)
def impl_Digest.f (l:List Int):Option (ByteArray):=if l.length≤1099511627776 then some (sha l) else none
set_option maxHeartbeats 2000000 in
theorem rounds_calls (w:World):Calls Tryz.prog 156 #[] w fun e w'=>∃ g,e = .returned (.pointer (some ⟨g,0,none⟩))∧w.heap.size≤g∧w'.heap[g]?=some (.cells (arrU shaK) 170 (0,0))∧Below w.heap.size w w':=by
 go_enter Tryz.func156,Tryz.ntmps156
 go_wp2
 go_ret
 exact ⟨_,rfl,Nat.le_refl _,blk_new w _,(Below.refl _ _).alloc (Nat.le_refl _) _⟩
theorem sub_reads {w:World} {b n:Nat} {xs:List Int} (h:Kd.C (Kd.int .u8) w (some ⟨b,0,none⟩) n xs) (x:Nat) (hx:x+64≤n):Kd.C (Kd.int .u8) w (some ⟨b,0+x,none⟩) (blockAt xs x).length (blockAt xs x)∧(blockAt xs x).length=64:=by
 have hl:=h.1
 have h64:(blockAt xs x).length=64:=by simp [blockAt];omega
 obtain ⟨ad,he,hby⟩:=bytes_at h (by omega)
 obtain rfl:=(Option.some.inj he).symm
 refine ⟨⟨rfl,by omega,fun _=>⟨_,rfl,fun j p hj=>⟨[.int .u8 p],rfl,rfl,fun i u hu=>?_⟩⟩⟩,h64⟩
 have hj64:j < 64:=by rw [← h64];exact (List.getElem?_eq_some_iff.1 hj).1
 have hi0:i=0:=by
  rcases Nat.eq_zero_or_pos i with hz|hz
  ·exact hz
  ·rw [List.getElem?_eq_none (by simp;omega)] at hu
   cases hu
 subst hi0
 have hu2:u = .int .u8 p:=by simpa using hu.symm
 have hp:xs[x+j]?=some p:=by
  rw [blockAt,List.getElem?_take,if_pos hj64,List.getElem?_drop] at hj
  exact hj
 have:=hby.2 (x+j) (by omega)
 rw [hu2]
 have hrd:rd xs ((x+j:Nat):Int)=p:=by unfold rd;rw [Int.toNat_natCast];simp [List.getD_eq_getElem?_getD,hp]
 rw [hrd] at this
 have haddr:(⟨b,0+x,none⟩:Addr).add (j * (Kd.int .u8).sz+0)=(⟨b,0,none⟩:Addr).add (x+j):=by
  rw [show (Kd.int .u8).sz=1 from rfl,Nat.mul_one,Nat.add_zero]
  unfold Addr.add
  by_cases hj0:j=0
  ·by_cases hxx:x=0
   ·simp [hj0,hxx]
   ·simp [hj0,hxx]
  ·simp [hj0]
 rw [haddr]
 exact this
theorem C_at {w W:World} {g n:Nat} {xs:List Int} (h:Kd.C (Kd.int .u8) w (some ⟨g,0,none⟩) n xs) (hb:W.heap[g]?=w.heap[g]?):Kd.C (Kd.int .u8) W (some ⟨g,0,none⟩) n xs:=by
 refine ⟨h.1,h.2.1,fun hp=>?_⟩
 obtain ⟨ad,he,f⟩:=h.2.2 hp
 obtain rfl:=(Option.some.inj he).symm
 refine ⟨_,he,fun j p hj=>?_⟩
 obtain ⟨cs,h1,h2,h3⟩:=f j p hj
 refine ⟨cs,h1,h2,fun i u hu=>?_⟩
 have h4:=h3 i u hu
 have ha:((⟨g,0,none⟩:Addr).add (j * (Kd.int .u8).sz+i)).block=g:=by
  unfold Addr.add
  split <;> rfl
 rw [World.cell?_of_block (w:=w) (w':=W) (by rw [ha];exact hb)]
 exact h4
@[local go_sem] theorem run_index_h0 (v0 v1 v2 v3 v4 v5 v6 v7:Int) (w:World):(Instr.index 159 (.agg #[.int .u32 v0,.int .u32 v1,.int .u32 v2,.int .u32 v3,.int .u32 v4,.int .u32 v5,.int .u32 v6,.int .u32 v7]) (.int .i64 0)).run Tryz.prog w = .ok (.int .u32 v0) w:=by
 simp [Instr.index,asIntOf,run_underlying Tryz.underlying159,go_sem]
@[local go_sem] theorem run_index_h1 (v0 v1 v2 v3 v4 v5 v6 v7:Int) (w:World):(Instr.index 159 (.agg #[.int .u32 v0,.int .u32 v1,.int .u32 v2,.int .u32 v3,.int .u32 v4,.int .u32 v5,.int .u32 v6,.int .u32 v7]) (.int .i64 1)).run Tryz.prog w = .ok (.int .u32 v1) w:=by
 simp [Instr.index,asIntOf,run_underlying Tryz.underlying159,go_sem]
@[local go_sem] theorem run_index_h2 (v0 v1 v2 v3 v4 v5 v6 v7:Int) (w:World):(Instr.index 159 (.agg #[.int .u32 v0,.int .u32 v1,.int .u32 v2,.int .u32 v3,.int .u32 v4,.int .u32 v5,.int .u32 v6,.int .u32 v7]) (.int .i64 2)).run Tryz.prog w = .ok (.int .u32 v2) w:=by
 simp [Instr.index,asIntOf,run_underlying Tryz.underlying159,go_sem]
@[local go_sem] theorem run_index_h3 (v0 v1 v2 v3 v4 v5 v6 v7:Int) (w:World):(Instr.index 159 (.agg #[.int .u32 v0,.int .u32 v1,.int .u32 v2,.int .u32 v3,.int .u32 v4,.int .u32 v5,.int .u32 v6,.int .u32 v7]) (.int .i64 3)).run Tryz.prog w = .ok (.int .u32 v3) w:=by
 simp [Instr.index,asIntOf,run_underlying Tryz.underlying159,go_sem]
@[local go_sem] theorem run_index_h4 (v0 v1 v2 v3 v4 v5 v6 v7:Int) (w:World):(Instr.index 159 (.agg #[.int .u32 v0,.int .u32 v1,.int .u32 v2,.int .u32 v3,.int .u32 v4,.int .u32 v5,.int .u32 v6,.int .u32 v7]) (.int .i64 4)).run Tryz.prog w = .ok (.int .u32 v4) w:=by
 simp [Instr.index,asIntOf,run_underlying Tryz.underlying159,go_sem]
@[local go_sem] theorem run_index_h5 (v0 v1 v2 v3 v4 v5 v6 v7:Int) (w:World):(Instr.index 159 (.agg #[.int .u32 v0,.int .u32 v1,.int .u32 v2,.int .u32 v3,.int .u32 v4,.int .u32 v5,.int .u32 v6,.int .u32 v7]) (.int .i64 5)).run Tryz.prog w = .ok (.int .u32 v5) w:=by
 simp [Instr.index,asIntOf,run_underlying Tryz.underlying159,go_sem]
@[local go_sem] theorem run_index_h6 (v0 v1 v2 v3 v4 v5 v6 v7:Int) (w:World):(Instr.index 159 (.agg #[.int .u32 v0,.int .u32 v1,.int .u32 v2,.int .u32 v3,.int .u32 v4,.int .u32 v5,.int .u32 v6,.int .u32 v7]) (.int .i64 6)).run Tryz.prog w = .ok (.int .u32 v6) w:=by
 simp [Instr.index,asIntOf,run_underlying Tryz.underlying159,go_sem]
@[local go_sem] theorem run_index_h7 (v0 v1 v2 v3 v4 v5 v6 v7:Int) (w:World):(Instr.index 159 (.agg #[.int .u32 v0,.int .u32 v1,.int .u32 v2,.int .u32 v3,.int .u32 v4,.int .u32 v5,.int .u32 v6,.int .u32 v7]) (.int .i64 7)).run Tryz.prog w = .ok (.int .u32 v7) w:=by
 simp [Instr.index,asIntOf,run_underlying Tryz.underlying159,go_sem]
theorem xd_blk {A B:World} {row:Option Nat} {b n:Nat} {cs:Array Value} {T:TypeId} (h:A.heap[n]?=some (.cells cs T (0,0))) (hg:A.grownBy B row) (hr:∀ r,row=some r->b≤r∧∃ o:Obj,A.heap[r]?=some o∧o.isCells=false):B.heap[n]?=some (.cells cs T (0,0)):=by
 rw [hg.block n (blk_lt h) (fun e=>?_)]
 ·exact h
 ·obtain ⟨_,o,ho,hc⟩:=hr n e.symm
  rw [h] at ho
  cases ho
  cases hc
theorem turn64 {g:Nat} (gh gk x:Nat) (p hs:List Int) (w:World) (hC:Kd.C (Kd.int .u8) w (some ⟨g,0,none⟩) p.length p) (hx:x+64≤p.length) (hh:hs.length=8)
  (hgh:w.heap[gh]?=some (.cells (arrU hs) 159 (0,0))) (hgk:w.heap[gk]?=some (.cells (arrU shaK) 170 (0,0))) :
  Calls Tryz.prog 159 #[.pointer (some ⟨gh,0,none⟩),.slice (some ⟨g,x,none⟩) 64 64,.pointer (some ⟨gk,0,none⟩)] w fun e w'=>e = .returned (.tuple #[])∧w.grownBy w' (some gh)∧w'.heap[gh]?=some (.cells (arrU (turned shaK (blockAt p x) hs)) 159 (0,0)):=by
 obtain ⟨h1,h2⟩:=sub_reads hC x hx
 have:=turnBlock_calls gh gk (some ⟨g,0+x,none⟩) 64 (blockAt p x) hs shaK w h1 h2 hh rfl hgh hgk
 rw [h2,Nat.zero_add] at this
 exact this
set_option maxHeartbeats 4000000 in
theorem impl_Digest.calls (A0:Option Addr) (c0:Nat) (l0:List Int) (r:ByteArray) (w:World) (hr0:Kd.C (Kd.int .u8) w A0 l0.length l0) (hc0:l0.length≤c0) (h:impl_Digest.f l0=some r) :
  Calls Tryz.prog 133 #[.slice A0 l0.length c0] w fun e w'=>e = .returned (.string r)∧Below w.heap.size w w':=by
 unfold impl_Digest.f at h
 by_cases hl:l0.length≤1099511627776
 ·rw [if_pos hl] at h
  obtain rfl:=Option.some.inj h
  clear h
  obtain ⟨kp,hkp⟩:=Ev.rounds (impl_Padded_ev l0 hl)
  have HP:=am_ hkp
  have HR:=am_ hr0
  have HC:=am_ hc0
  have HLL:=am_ hl
  clear hkp hr0 hc0 hl
  refine (callsIn_wide (n:=3)).1 ?_
  refine callsIn_of_wp_marks Tryz.func133 rfl trivial ?_ rfl
  refine wpIn_wide.2 ?_
  simp only [Tryz.ntmps133,List.size_toArray,List.length_cons,List.length_nil,Nat.reduceAdd,Nat.reduceSub,Array.replicate_succ,Array.replicate_zero,List.push_toArray,List.append_toArray,List.nil_append,List.cons_append]
  go_wp2_with (go_at_call 156;(with_reducible refine (rounds_calls _).mono ?_);rintro e w1 ⟨gk,rfl,hk1,hk2,hb1⟩;have HK1:=am_ hk1;have HK2:=am_ hk2;have HB1:=am_ hb1;clear hk1 hk2 hb1)
  have HH1:=am_ (blk_below (blk_new w _) HB1.out)
  have HB2:=am_ (show Below w.heap.size w (w1.alloc (.cells #[.pointer (some ⟨gk,0,none⟩)] 160)) from ((((Below.refl _ _).alloc (Nat.le_refl _) _).trans (HB1.out.mono (by simp))).alloc (by have:=HB1.out.size;simp at this;omega) _))
  have HH2:=am_ (blk_alloc HH1.out (.cells #[.pointer (some ⟨gk,0,none⟩)] 160))
  have HK3:=am_ (blk_alloc HK2.out (.cells #[.pointer (some ⟨gk,0,none⟩)] 160))
  have HP2:=am_ (blk_new w1 (.cells #[.pointer (some ⟨gk,0,none⟩)] 160))
  obtain ⟨gh,hgh⟩:∃ gh,w.heap.size=gh:=⟨_,rfl⟩
  obtain ⟨gb,hgb⟩:∃ gb,w1.heap.size=gb:=⟨_,rfl⟩
  have HGH:=am_ hgh
  rw [hgh] at HH2
  rw [hgb] at HP2
  simp only [hgh,hgb]
  clear hgh hgb HH1 HK2 HK1
  generalize w1.alloc (.cells #[.pointer (some ⟨gk,0,none⟩)] 160)=w2 at HB2 HH2 HK3 HP2 ⊢
  with_reducible refine (impl_Padded.calls kp _ _ l0 (padL l0) _ (Kd.C_below HR.out HB2.out) HC.out HP.out).mono ?_
  rintro e w3 ⟨vp,rfl,ho,hb3⟩
  have hplen:=padL_length l0
  have hpsz:=padL_size l0
  have hpp:0 < (padL l0).length:=by simp [padL];omega
  obtain ⟨g,cap,rfl,hg1,hg2,cs0,hcs0⟩:=Kd.R_form ho hpp
  obtain ⟨_,hcap,hC⟩:=Kd.R_reads' ho
  have HO:=am_ hC
  have HCS:=am_ hcs0
  have HB3:=am_ (HB2.out.trans (hb3.mono HB2.out.size))
  have HH3:=am_ (blk_below HH2.out hb3)
  have HK4:=am_ (blk_below HK3.out hb3)
  have HP3:=am_ (blk_below HP2.out hb3)
  have HSZ:=am_ hb3.size
  have HG:=am_ (And.intro hg1 hg2)
  have HN:=am_ (And.intro hplen (And.intro hpsz hcap))
  clear ho hb3 hg1 hg2 hcs0 hC hcap hplen hpsz hpp
  clear HB2 HH2 HK3 HP2
  go_wp2_with (go_at_call 157;(refine (callsIn_wide.1 (chunk_in Fence.wide 1 trivial rfl _ _ _ _)).mono ?_);rintro e w4 ⟨rfl,rfl⟩)
  rename_i hKz _
  have HKz:=am_ hKz
  clear hKz
  obtain ⟨w4,hw4⟩:∃ w4,(w3.alloc (.cells #[.slice (some ⟨g,0,none⟩) (padL l0).length cap] 27)).alloc (.cells #[.int .i64 64] 3)=w4:=⟨_,rfl⟩
  have hb4:Below w3.heap.size w3 w4:=by rw [← hw4];exact ((Below.refl _ _).alloc (Nat.le_refl _) _).alloc (by simp) _
  have hsz4:w4.heap.size=w3.heap.size+2:=by rw [← hw4];simp
  have HBs:w4.cell? ⟨w3.heap.size,0,none⟩=some (.slice (some ⟨g,0,none⟩) (padL l0).length cap):=by
   rw [← hw4]
   simp
  have HBn:w4.cell? ⟨w3.heap.size+1,0,none⟩=some (.int .i64 64):=by
   rw [← hw4]
   simp
  have hC4:=Kd.C_below HO.out hb4
  have hcs4:=blk_below HCS.out hb4
  have hgh4:=blk_below HH3.out hb4
  have hgk4:=blk_below HK4.out hb4
  have hgb4:=blk_below HP3.out hb4
  have hB4:Below w.heap.size w w4:=HB3.out.trans (hb4.mono HB3.out.size)
  rw [hw4]
  clear hw4
  have hN:=HN.out
  have hm:(padL l0).length=64 * ((padL l0).length / 64):=by omega
  refine (wpIn_wide (n:=3)).1 ?_
  refine wpIn_rangeFunc_ownF rfl (by omega) (gf:=169) (lb:=#[.pointer (some ⟨w3.heap.size,0,none⟩),.pointer (some ⟨w3.heap.size+1,0,none⟩)]) rfl trivial (enters_of Tryz.func169 (by kernel_rfl) rfl)
   (chunk_stops Fence.wide _ trivial rfl (by omega) w3.heap.size (w3.heap.size+1) w4.heap.size gh g 0 cap ((padL l0).length / 64) (padL l0).length hm hN.2.2 (by have:=HLL.out;omega) (by have:=blk_lt hcs4;omega) (by omega) (by omega) (by have:=blk_lt HH3.out;omega) (by have:=blk_lt HH3.out;omega) w4 (Nat.le_refl _) HBs HBn)
   BelowBut.trans (BelowBut.putObj (Nat.le_refl _)) (Below.refl _ _) (fun _=>rfl)
   (fun pre W=>(Aside0 (W.heap[gh]?=some (.cells (arrU (foldAt (padL l0) (pre.map (·.1)))) 159 (0,0)))∧Aside0 (W.heap[gk]?=some (.cells (arrU shaK) 170 (0,0)))∧Aside0 (W.heap[gb]?=some (.cells #[.pointer (some ⟨gk,0,none⟩)] 160 (0,0)))∧Aside0 (W.heap[g]?=some (.cells cs0 5 (0,0)))∧Aside0 (w4.heap.size≤W.heap.size))∧Below w.heap.size w W)
   (fun _ _ _=>False)
   ?own (fun c=>?ownx) ?h0
   (fun x=>{ tmps:=#[Value.slice A0 l0.length c0,undef,.string ⟨#[]⟩,.pointer (some ⟨gh,0,none⟩),.pointer (some ⟨gb,0,none⟩),Value.slice (some ⟨g,x.1,none⟩) 64 64,undef,undef,undef,.agg #[.int .u32 1779033703,.int .u32 3144134277,.int .u32 1013904242,.int .u32 2773480762,.int .u32 1359893119,.int .u32 2600822924,.int .u32 528734635,.int .u32 1541459225],.pointer (some ⟨gk,0,none⟩),.slice A0 l0.length c0,.slice (some ⟨g,0,none⟩) (padL l0).length cap,.func (.func 169) #[] #[.pointer (some ⟨w3.heap.size,0,none⟩),.pointer (some ⟨w3.heap.size+1,0,none⟩)],Value.slice (some ⟨g,x.1,none⟩) 64 64,undef,undef,undef,undef,undef,undef,undef,undef,undef,undef,undef,undef,undef,undef,undef,undef,undef,undef,undef,undef,undef,undef,undef,undef],defers:=[] }) ?assign ?body ?done ?stop
  case assign =>
   intro l x W K hK
   clear hm hN
   gi_wp2_with (rw [Oper.semAt_eq _ _ _ (fun c h=>by cases h)];go_simp;try go_bits)
   exact hK
  case body =>
   rintro l pre x W ⟨⟨hh,hk,hb,hc,hs⟩,hB⟩ _
   clear hm hN
   have cb:W.cell? ⟨gb,0,none⟩=some (.pointer (some ⟨gk,0,none⟩)):=blk_cell hb.out 0
   have hcx:Kd.C (Kd.int .u8) W (some ⟨g,0,none⟩) (padL l0).length (padL l0):=C_at hC4 (hc.out.trans hcs4.symm)
   have HCX:=am_ hcx
   clear hcx hC4
   gi_wp2_with (rw [Oper.semAt_eq _ _ _ (fun c h=>by cases h)];go_simp;try go_bits)
   refine ⟨trivial,?_⟩
   have HT:=turn64 (g:=g) gh gk x.1 (padL l0) (foldAt (padL l0) (pre.map (·.1))) W HCX.out x.2 (foldAt_length _ _) hh.out hk.out
   refine CallsIn.mono (CallsIn.inRound l (callsIn_wide.2 HT)) ?_
   rintro e W' ⟨rfl,hg',hn'⟩
   gi_wp2
   have hb0:BelowBut w4.heap.size gh W W':=BelowBut.grown hg' hs.out
   have hsz:=hs.out
   have hl1:=blk_lt hgk4
   have hl2:=blk_lt hgb4
   have hl3:=blk_lt hcs4
   have n1:gk ≠ gh:=blk_ne hk.out hh.out (by decide)
   have n2:gb ≠ gh:=blk_ne hb.out hh.out (by decide)
   have n3:g ≠ gh:=blk_ne hc.out hh.out (by decide)
   refine ⟨KeepsOthers.of_grownBy hg' (fun j o hj ho=>by cases hj;rw [hh.out] at ho;cases ho;rfl),hb0,⟨⟨?_⟩,⟨?_⟩,⟨?_⟩,⟨?_⟩,⟨?_⟩⟩,?_⟩
   ·rw [List.map_append,List.map_cons,List.map_nil,foldAt_snoc]
    exact hn'
   ·exact (hb0.block gk hl1 n1).trans hk.out
   ·exact (hb0.block gb hl2 n2).trans hb.out
   ·exact (hb0.block g hl3 n3).trans hc.out
   ·exact Nat.le_trans hsz hb0.size
   ·exact hB.grown hg' (Nat.le_trans hB4.size hsz) (fun k e=>by cases e;have:=HGH.out;omega)
  case own =>
   refine OwnFrom.and (fun s A B row hs hg hr=>⟨⟨xd_blk hs.1.out hg hr⟩,⟨xd_blk hs.2.1.out hg hr⟩,⟨xd_blk hs.2.2.1.out hg hr⟩,⟨xd_blk hs.2.2.2.1.out hg hr⟩,⟨Nat.le_trans hs.2.2.2.2.out hg.size⟩⟩) (ownFrom_below (Nat.le_refl _) hB4.size)
  case ownx => exact fun s A B row hs hg hr=>hs
  case h0 => exact ⟨⟨⟨hgh4⟩,⟨hgk4⟩,⟨hgb4⟩,⟨hcs4⟩,⟨Nat.le_refl _⟩⟩,hB4⟩
  case stop => exact fun D c pre W _ _ hx=>hx.elim
  case done =>
   rintro D xs W hD hS ⟨⟨hh,_,_,_,hs⟩,hB⟩ hK
   clear hm hN hC4 hcs4 hgh4 hgk4 hgb4 hB4 HBs HBn
   refine HKz.out _ _ ?_
   clear HKz
   obtain ⟨v0,v1,v2,v3,v4,v5,v6,v7,hv⟩:=eight (foldAt_length (padL l0) (starts ((padL l0).length / 64)))
   rw [hS,hv] at hh
   have c0:W.cell? ⟨gh,0,none⟩=some (.int .u32 v0):=blk_cell hh.out 0
   have c1:W.cell? ⟨gh,1,none⟩=some (.int .u32 v1):=blk_cell hh.out 1
   have c2:W.cell? ⟨gh,2,none⟩=some (.int .u32 v2):=blk_cell hh.out 2
   have c3:W.cell? ⟨gh,3,none⟩=some (.int .u32 v3):=blk_cell hh.out 3
   have c4:W.cell? ⟨gh,4,none⟩=some (.int .u32 v4):=blk_cell hh.out 4
   have c5:W.cell? ⟨gh,5,none⟩=some (.int .u32 v5):=blk_cell hh.out 5
   have c6:W.cell? ⟨gh,6,none⟩=some (.int .u32 v6):=blk_cell hh.out 6
   have c7:W.cell? ⟨gh,7,none⟩=some (.int .u32 v7):=blk_cell hh.out 7
   have HV:=am_ hv
   have HD:=am_ hD
   have HKD:=am_ hK
   have HBB:=am_ hB
   have HS4:=am_ hsz4
   clear hv hD hK hB hS hsz4 hb4
   go_wp2
   have HL:=am_ (And.intro hh.out hs.out)
   clear c0 c1 c2 c3 c4 c5 c6 c7 hh hs
   obtain ⟨W0,hW0⟩:∃ W0:World,W=W0:=⟨_,rfl⟩
   go_loopw [6,19] (fun x6 x19 W'=>∃ k:Nat,k≤8∧x19 = .int .i64 k∧Aside0 (Kd.R (Kd.int .u8) 5 W' W.heap.size (fun _=>True) x6 (outBytes [v0,v1,v2,v3,v4,v5,v6,v7] k))∧Aside0 (Below W.heap.size W W')) (fun _ x19 _=>8 - (intOf x19).toNat)
   case atStart => exact ⟨0,by omega,rfl,⟨Kd.R_nil _ _ _ _ _⟩,⟨Below.refl _ _⟩⟩
   case round =>
    obtain ⟨k,hk,rfl,HR1,HB1⟩:=hrel
    by_cases hlt:k < 8
    ·have hk8:k=0∨k=1∨k=2∨k=3∨k=4∨k=5∨k=6∨k=7:=by omega
     clear hk hlt
     rcases hk8 with rfl|rfl|rfl|rfl|rfl|rfl|rfl|rfl
     ·go_wp2_with (first
       | ((with_reducible refine gate_dst (N:=34) rfl ?_);refine Kd.R_lit (Kd.int .u8) _ 5 ?hg (N:=34) ?hd (xs:=wordBytes v0) (inner:=[.int .u8 (v0 / 16777216 % 256),.int .u8 (v0 / 65536 % 256),.int .u8 (v0 / 256 % 256),.int .u8 (v0 % 256)]) (ok:=fun _=>True) (okp:=fun _=>True) ?hr ?hp (fun _ hk=>hk) trivial (Below.refl _ _) (Nat.le_refl _) (by simp [wordBytes]) ?_;(case hd=>rfl);(case hg=>rfl);(case hr=>first|(go_simp;done)|(go_simp;rfl));(case hp=>exact Reps.one (show Kd.M (Kd.int .u8) _ _ _ (v0 / 16777216 % 256) [.int .u8 (v0 / 16777216 % 256)] from rfl) (Reps.one (show Kd.M (Kd.int .u8) _ _ _ (v0 / 65536 % 256) [.int .u8 (v0 / 65536 % 256)] from rfl) (Reps.one (show Kd.M (Kd.int .u8) _ _ _ (v0 / 256 % 256) [.int .u8 (v0 / 256 % 256)] from rfl) (Reps.one (show Kd.M (Kd.int .u8) _ _ _ (v0 % 256) [.int .u8 (v0 % 256)] from rfl) (Reps.none _ _)))));intro vl wl ho hb hg_ hn_;clear hg_ hn_;have n0:=am_ (Kd.R_elder' HR1.out (Kd.R_base ho) hb);have n1:=am_ (Kd.R_lower (Kd.R_new' ho (Kd.R_lt HR1.out)) (below_size HB1.out));have n2:=am_ (below_step HB1.out hb);clear HR1 HB1 ho hb;have HR1:=n0;have HO1:=n1;have HB1:=n2;clear n0 n1 n2;obtain ⟨Ao,co,eo⟩:=Kd.R_slice HO1.out;subst eo)
       | ((with_reducible refine gate_builtin (b:=.append) (xs:=#[.tmp 22,.tmp 34]) rfl ?_);at_builtin;refine Kd.R_append_rows (Kd.int .u8) (w0:=W) W.heap.size rfl (.tmp 22) (.tmp 34) 27 5 (.int .u8 0) 1 rfl Tryz.underlying27 info5 rfl (by decide) (by omega) u6 (outBytes [v0,v1,v2,v3,v4,v5,v6,v7] 0) (wordBytes v0) _ _ _ (fun k_=>some k_ ≠ (.slice Ao (wordBytes v0).length co:Value).ownBlock) (fun _=>False) rfl rfl (Kd.R_mono HR1.out (fun _ hk=>hk.2)) (Kd.R_reads' HO1.out).2.2 (fun _ _ h=>h) (fun _ h=>h.elim) (fun k_ hk=>Kd.fresh' (Kd.R_lt HO1.out) k_ hk) HB1.out (below_size HB1.out) (by simp [outBytes,wordBytes]) ?_;intro va wa ho hb hg_ hn_;clear hg_ hn_))
      go_roundw
      case rel => exact ⟨1,by omega,by go_num,⟨Kd.R_mono ho (fun _ _=>trivial)⟩,⟨hb⟩⟩
      case measure => simp [intOf]
     ·go_wp2_with (first
       | ((with_reducible refine gate_dst (N:=34) rfl ?_);refine Kd.R_lit (Kd.int .u8) _ 5 ?hg (N:=34) ?hd (xs:=wordBytes v1) (inner:=[.int .u8 (v1 / 16777216 % 256),.int .u8 (v1 / 65536 % 256),.int .u8 (v1 / 256 % 256),.int .u8 (v1 % 256)]) (ok:=fun _=>True) (okp:=fun _=>True) ?hr ?hp (fun _ hk=>hk) trivial (Below.refl _ _) (Nat.le_refl _) (by simp [wordBytes]) ?_;(case hd=>rfl);(case hg=>rfl);(case hr=>first|(go_simp;done)|(go_simp;rfl));(case hp=>exact Reps.one (show Kd.M (Kd.int .u8) _ _ _ (v1 / 16777216 % 256) [.int .u8 (v1 / 16777216 % 256)] from rfl) (Reps.one (show Kd.M (Kd.int .u8) _ _ _ (v1 / 65536 % 256) [.int .u8 (v1 / 65536 % 256)] from rfl) (Reps.one (show Kd.M (Kd.int .u8) _ _ _ (v1 / 256 % 256) [.int .u8 (v1 / 256 % 256)] from rfl) (Reps.one (show Kd.M (Kd.int .u8) _ _ _ (v1 % 256) [.int .u8 (v1 % 256)] from rfl) (Reps.none _ _)))));intro vl wl ho hb hg_ hn_;clear hg_ hn_;have n0:=am_ (Kd.R_elder' HR1.out (Kd.R_base ho) hb);have n1:=am_ (Kd.R_lower (Kd.R_new' ho (Kd.R_lt HR1.out)) (below_size HB1.out));have n2:=am_ (below_step HB1.out hb);clear HR1 HB1 ho hb;have HR1:=n0;have HO1:=n1;have HB1:=n2;clear n0 n1 n2;obtain ⟨Ao,co,eo⟩:=Kd.R_slice HO1.out;subst eo)
       | ((with_reducible refine gate_builtin (b:=.append) (xs:=#[.tmp 22,.tmp 34]) rfl ?_);at_builtin;refine Kd.R_append_rows (Kd.int .u8) (w0:=W) W.heap.size rfl (.tmp 22) (.tmp 34) 27 5 (.int .u8 0) 1 rfl Tryz.underlying27 info5 rfl (by decide) (by omega) u6 (outBytes [v0,v1,v2,v3,v4,v5,v6,v7] 1) (wordBytes v1) _ _ _ (fun k_=>some k_ ≠ (.slice Ao (wordBytes v1).length co:Value).ownBlock) (fun _=>False) rfl rfl (Kd.R_mono HR1.out (fun _ hk=>hk.2)) (Kd.R_reads' HO1.out).2.2 (fun _ _ h=>h) (fun _ h=>h.elim) (fun k_ hk=>Kd.fresh' (Kd.R_lt HO1.out) k_ hk) HB1.out (below_size HB1.out) (by simp [outBytes,wordBytes]) ?_;intro va wa ho hb hg_ hn_;clear hg_ hn_))
      go_roundw
      case rel => exact ⟨2,by omega,by go_num,⟨Kd.R_mono ho (fun _ _=>trivial)⟩,⟨hb⟩⟩
      case measure => simp [intOf]
     ·go_wp2_with (first
       | ((with_reducible refine gate_dst (N:=34) rfl ?_);refine Kd.R_lit (Kd.int .u8) _ 5 ?hg (N:=34) ?hd (xs:=wordBytes v2) (inner:=[.int .u8 (v2 / 16777216 % 256),.int .u8 (v2 / 65536 % 256),.int .u8 (v2 / 256 % 256),.int .u8 (v2 % 256)]) (ok:=fun _=>True) (okp:=fun _=>True) ?hr ?hp (fun _ hk=>hk) trivial (Below.refl _ _) (Nat.le_refl _) (by simp [wordBytes]) ?_;(case hd=>rfl);(case hg=>rfl);(case hr=>first|(go_simp;done)|(go_simp;rfl));(case hp=>exact Reps.one (show Kd.M (Kd.int .u8) _ _ _ (v2 / 16777216 % 256) [.int .u8 (v2 / 16777216 % 256)] from rfl) (Reps.one (show Kd.M (Kd.int .u8) _ _ _ (v2 / 65536 % 256) [.int .u8 (v2 / 65536 % 256)] from rfl) (Reps.one (show Kd.M (Kd.int .u8) _ _ _ (v2 / 256 % 256) [.int .u8 (v2 / 256 % 256)] from rfl) (Reps.one (show Kd.M (Kd.int .u8) _ _ _ (v2 % 256) [.int .u8 (v2 % 256)] from rfl) (Reps.none _ _)))));intro vl wl ho hb hg_ hn_;clear hg_ hn_;have n0:=am_ (Kd.R_elder' HR1.out (Kd.R_base ho) hb);have n1:=am_ (Kd.R_lower (Kd.R_new' ho (Kd.R_lt HR1.out)) (below_size HB1.out));have n2:=am_ (below_step HB1.out hb);clear HR1 HB1 ho hb;have HR1:=n0;have HO1:=n1;have HB1:=n2;clear n0 n1 n2;obtain ⟨Ao,co,eo⟩:=Kd.R_slice HO1.out;subst eo)
       | ((with_reducible refine gate_builtin (b:=.append) (xs:=#[.tmp 22,.tmp 34]) rfl ?_);at_builtin;refine Kd.R_append_rows (Kd.int .u8) (w0:=W) W.heap.size rfl (.tmp 22) (.tmp 34) 27 5 (.int .u8 0) 1 rfl Tryz.underlying27 info5 rfl (by decide) (by omega) u6 (outBytes [v0,v1,v2,v3,v4,v5,v6,v7] 2) (wordBytes v2) _ _ _ (fun k_=>some k_ ≠ (.slice Ao (wordBytes v2).length co:Value).ownBlock) (fun _=>False) rfl rfl (Kd.R_mono HR1.out (fun _ hk=>hk.2)) (Kd.R_reads' HO1.out).2.2 (fun _ _ h=>h) (fun _ h=>h.elim) (fun k_ hk=>Kd.fresh' (Kd.R_lt HO1.out) k_ hk) HB1.out (below_size HB1.out) (by simp [outBytes,wordBytes]) ?_;intro va wa ho hb hg_ hn_;clear hg_ hn_))
      go_roundw
      case rel => exact ⟨3,by omega,by go_num,⟨Kd.R_mono ho (fun _ _=>trivial)⟩,⟨hb⟩⟩
      case measure => simp [intOf]
     ·go_wp2_with (first
       | ((with_reducible refine gate_dst (N:=34) rfl ?_);refine Kd.R_lit (Kd.int .u8) _ 5 ?hg (N:=34) ?hd (xs:=wordBytes v3) (inner:=[.int .u8 (v3 / 16777216 % 256),.int .u8 (v3 / 65536 % 256),.int .u8 (v3 / 256 % 256),.int .u8 (v3 % 256)]) (ok:=fun _=>True) (okp:=fun _=>True) ?hr ?hp (fun _ hk=>hk) trivial (Below.refl _ _) (Nat.le_refl _) (by simp [wordBytes]) ?_;(case hd=>rfl);(case hg=>rfl);(case hr=>first|(go_simp;done)|(go_simp;rfl));(case hp=>exact Reps.one (show Kd.M (Kd.int .u8) _ _ _ (v3 / 16777216 % 256) [.int .u8 (v3 / 16777216 % 256)] from rfl) (Reps.one (show Kd.M (Kd.int .u8) _ _ _ (v3 / 65536 % 256) [.int .u8 (v3 / 65536 % 256)] from rfl) (Reps.one (show Kd.M (Kd.int .u8) _ _ _ (v3 / 256 % 256) [.int .u8 (v3 / 256 % 256)] from rfl) (Reps.one (show Kd.M (Kd.int .u8) _ _ _ (v3 % 256) [.int .u8 (v3 % 256)] from rfl) (Reps.none _ _)))));intro vl wl ho hb hg_ hn_;clear hg_ hn_;have n0:=am_ (Kd.R_elder' HR1.out (Kd.R_base ho) hb);have n1:=am_ (Kd.R_lower (Kd.R_new' ho (Kd.R_lt HR1.out)) (below_size HB1.out));have n2:=am_ (below_step HB1.out hb);clear HR1 HB1 ho hb;have HR1:=n0;have HO1:=n1;have HB1:=n2;clear n0 n1 n2;obtain ⟨Ao,co,eo⟩:=Kd.R_slice HO1.out;subst eo)
       | ((with_reducible refine gate_builtin (b:=.append) (xs:=#[.tmp 22,.tmp 34]) rfl ?_);at_builtin;refine Kd.R_append_rows (Kd.int .u8) (w0:=W) W.heap.size rfl (.tmp 22) (.tmp 34) 27 5 (.int .u8 0) 1 rfl Tryz.underlying27 info5 rfl (by decide) (by omega) u6 (outBytes [v0,v1,v2,v3,v4,v5,v6,v7] 3) (wordBytes v3) _ _ _ (fun k_=>some k_ ≠ (.slice Ao (wordBytes v3).length co:Value).ownBlock) (fun _=>False) rfl rfl (Kd.R_mono HR1.out (fun _ hk=>hk.2)) (Kd.R_reads' HO1.out).2.2 (fun _ _ h=>h) (fun _ h=>h.elim) (fun k_ hk=>Kd.fresh' (Kd.R_lt HO1.out) k_ hk) HB1.out (below_size HB1.out) (by simp [outBytes,wordBytes]) ?_;intro va wa ho hb hg_ hn_;clear hg_ hn_))
      go_roundw
      case rel => exact ⟨4,by omega,by go_num,⟨Kd.R_mono ho (fun _ _=>trivial)⟩,⟨hb⟩⟩
      case measure => simp [intOf]
     ·go_wp2_with (first
       | ((with_reducible refine gate_dst (N:=34) rfl ?_);refine Kd.R_lit (Kd.int .u8) _ 5 ?hg (N:=34) ?hd (xs:=wordBytes v4) (inner:=[.int .u8 (v4 / 16777216 % 256),.int .u8 (v4 / 65536 % 256),.int .u8 (v4 / 256 % 256),.int .u8 (v4 % 256)]) (ok:=fun _=>True) (okp:=fun _=>True) ?hr ?hp (fun _ hk=>hk) trivial (Below.refl _ _) (Nat.le_refl _) (by simp [wordBytes]) ?_;(case hd=>rfl);(case hg=>rfl);(case hr=>first|(go_simp;done)|(go_simp;rfl));(case hp=>exact Reps.one (show Kd.M (Kd.int .u8) _ _ _ (v4 / 16777216 % 256) [.int .u8 (v4 / 16777216 % 256)] from rfl) (Reps.one (show Kd.M (Kd.int .u8) _ _ _ (v4 / 65536 % 256) [.int .u8 (v4 / 65536 % 256)] from rfl) (Reps.one (show Kd.M (Kd.int .u8) _ _ _ (v4 / 256 % 256) [.int .u8 (v4 / 256 % 256)] from rfl) (Reps.one (show Kd.M (Kd.int .u8) _ _ _ (v4 % 256) [.int .u8 (v4 % 256)] from rfl) (Reps.none _ _)))));intro vl wl ho hb hg_ hn_;clear hg_ hn_;have n0:=am_ (Kd.R_elder' HR1.out (Kd.R_base ho) hb);have n1:=am_ (Kd.R_lower (Kd.R_new' ho (Kd.R_lt HR1.out)) (below_size HB1.out));have n2:=am_ (below_step HB1.out hb);clear HR1 HB1 ho hb;have HR1:=n0;have HO1:=n1;have HB1:=n2;clear n0 n1 n2;obtain ⟨Ao,co,eo⟩:=Kd.R_slice HO1.out;subst eo)
       | ((with_reducible refine gate_builtin (b:=.append) (xs:=#[.tmp 22,.tmp 34]) rfl ?_);at_builtin;refine Kd.R_append_rows (Kd.int .u8) (w0:=W) W.heap.size rfl (.tmp 22) (.tmp 34) 27 5 (.int .u8 0) 1 rfl Tryz.underlying27 info5 rfl (by decide) (by omega) u6 (outBytes [v0,v1,v2,v3,v4,v5,v6,v7] 4) (wordBytes v4) _ _ _ (fun k_=>some k_ ≠ (.slice Ao (wordBytes v4).length co:Value).ownBlock) (fun _=>False) rfl rfl (Kd.R_mono HR1.out (fun _ hk=>hk.2)) (Kd.R_reads' HO1.out).2.2 (fun _ _ h=>h) (fun _ h=>h.elim) (fun k_ hk=>Kd.fresh' (Kd.R_lt HO1.out) k_ hk) HB1.out (below_size HB1.out) (by simp [outBytes,wordBytes]) ?_;intro va wa ho hb hg_ hn_;clear hg_ hn_))
      go_roundw
      case rel => exact ⟨5,by omega,by go_num,⟨Kd.R_mono ho (fun _ _=>trivial)⟩,⟨hb⟩⟩
      case measure => simp [intOf]
     ·go_wp2_with (first
       | ((with_reducible refine gate_dst (N:=34) rfl ?_);refine Kd.R_lit (Kd.int .u8) _ 5 ?hg (N:=34) ?hd (xs:=wordBytes v5) (inner:=[.int .u8 (v5 / 16777216 % 256),.int .u8 (v5 / 65536 % 256),.int .u8 (v5 / 256 % 256),.int .u8 (v5 % 256)]) (ok:=fun _=>True) (okp:=fun _=>True) ?hr ?hp (fun _ hk=>hk) trivial (Below.refl _ _) (Nat.le_refl _) (by simp [wordBytes]) ?_;(case hd=>rfl);(case hg=>rfl);(case hr=>first|(go_simp;done)|(go_simp;rfl));(case hp=>exact Reps.one (show Kd.M (Kd.int .u8) _ _ _ (v5 / 16777216 % 256) [.int .u8 (v5 / 16777216 % 256)] from rfl) (Reps.one (show Kd.M (Kd.int .u8) _ _ _ (v5 / 65536 % 256) [.int .u8 (v5 / 65536 % 256)] from rfl) (Reps.one (show Kd.M (Kd.int .u8) _ _ _ (v5 / 256 % 256) [.int .u8 (v5 / 256 % 256)] from rfl) (Reps.one (show Kd.M (Kd.int .u8) _ _ _ (v5 % 256) [.int .u8 (v5 % 256)] from rfl) (Reps.none _ _)))));intro vl wl ho hb hg_ hn_;clear hg_ hn_;have n0:=am_ (Kd.R_elder' HR1.out (Kd.R_base ho) hb);have n1:=am_ (Kd.R_lower (Kd.R_new' ho (Kd.R_lt HR1.out)) (below_size HB1.out));have n2:=am_ (below_step HB1.out hb);clear HR1 HB1 ho hb;have HR1:=n0;have HO1:=n1;have HB1:=n2;clear n0 n1 n2;obtain ⟨Ao,co,eo⟩:=Kd.R_slice HO1.out;subst eo)
       | ((with_reducible refine gate_builtin (b:=.append) (xs:=#[.tmp 22,.tmp 34]) rfl ?_);at_builtin;refine Kd.R_append_rows (Kd.int .u8) (w0:=W) W.heap.size rfl (.tmp 22) (.tmp 34) 27 5 (.int .u8 0) 1 rfl Tryz.underlying27 info5 rfl (by decide) (by omega) u6 (outBytes [v0,v1,v2,v3,v4,v5,v6,v7] 5) (wordBytes v5) _ _ _ (fun k_=>some k_ ≠ (.slice Ao (wordBytes v5).length co:Value).ownBlock) (fun _=>False) rfl rfl (Kd.R_mono HR1.out (fun _ hk=>hk.2)) (Kd.R_reads' HO1.out).2.2 (fun _ _ h=>h) (fun _ h=>h.elim) (fun k_ hk=>Kd.fresh' (Kd.R_lt HO1.out) k_ hk) HB1.out (below_size HB1.out) (by simp [outBytes,wordBytes]) ?_;intro va wa ho hb hg_ hn_;clear hg_ hn_))
      go_roundw
      case rel => exact ⟨6,by omega,by go_num,⟨Kd.R_mono ho (fun _ _=>trivial)⟩,⟨hb⟩⟩
      case measure => simp [intOf]
     ·go_wp2_with (first
       | ((with_reducible refine gate_dst (N:=34) rfl ?_);refine Kd.R_lit (Kd.int .u8) _ 5 ?hg (N:=34) ?hd (xs:=wordBytes v6) (inner:=[.int .u8 (v6 / 16777216 % 256),.int .u8 (v6 / 65536 % 256),.int .u8 (v6 / 256 % 256),.int .u8 (v6 % 256)]) (ok:=fun _=>True) (okp:=fun _=>True) ?hr ?hp (fun _ hk=>hk) trivial (Below.refl _ _) (Nat.le_refl _) (by simp [wordBytes]) ?_;(case hd=>rfl);(case hg=>rfl);(case hr=>first|(go_simp;done)|(go_simp;rfl));(case hp=>exact Reps.one (show Kd.M (Kd.int .u8) _ _ _ (v6 / 16777216 % 256) [.int .u8 (v6 / 16777216 % 256)] from rfl) (Reps.one (show Kd.M (Kd.int .u8) _ _ _ (v6 / 65536 % 256) [.int .u8 (v6 / 65536 % 256)] from rfl) (Reps.one (show Kd.M (Kd.int .u8) _ _ _ (v6 / 256 % 256) [.int .u8 (v6 / 256 % 256)] from rfl) (Reps.one (show Kd.M (Kd.int .u8) _ _ _ (v6 % 256) [.int .u8 (v6 % 256)] from rfl) (Reps.none _ _)))));intro vl wl ho hb hg_ hn_;clear hg_ hn_;have n0:=am_ (Kd.R_elder' HR1.out (Kd.R_base ho) hb);have n1:=am_ (Kd.R_lower (Kd.R_new' ho (Kd.R_lt HR1.out)) (below_size HB1.out));have n2:=am_ (below_step HB1.out hb);clear HR1 HB1 ho hb;have HR1:=n0;have HO1:=n1;have HB1:=n2;clear n0 n1 n2;obtain ⟨Ao,co,eo⟩:=Kd.R_slice HO1.out;subst eo)
       | ((with_reducible refine gate_builtin (b:=.append) (xs:=#[.tmp 22,.tmp 34]) rfl ?_);at_builtin;refine Kd.R_append_rows (Kd.int .u8) (w0:=W) W.heap.size rfl (.tmp 22) (.tmp 34) 27 5 (.int .u8 0) 1 rfl Tryz.underlying27 info5 rfl (by decide) (by omega) u6 (outBytes [v0,v1,v2,v3,v4,v5,v6,v7] 6) (wordBytes v6) _ _ _ (fun k_=>some k_ ≠ (.slice Ao (wordBytes v6).length co:Value).ownBlock) (fun _=>False) rfl rfl (Kd.R_mono HR1.out (fun _ hk=>hk.2)) (Kd.R_reads' HO1.out).2.2 (fun _ _ h=>h) (fun _ h=>h.elim) (fun k_ hk=>Kd.fresh' (Kd.R_lt HO1.out) k_ hk) HB1.out (below_size HB1.out) (by simp [outBytes,wordBytes]) ?_;intro va wa ho hb hg_ hn_;clear hg_ hn_))
      go_roundw
      case rel => exact ⟨7,by omega,by go_num,⟨Kd.R_mono ho (fun _ _=>trivial)⟩,⟨hb⟩⟩
      case measure => simp [intOf]
     ·go_wp2_with (first
       | ((with_reducible refine gate_dst (N:=34) rfl ?_);refine Kd.R_lit (Kd.int .u8) _ 5 ?hg (N:=34) ?hd (xs:=wordBytes v7) (inner:=[.int .u8 (v7 / 16777216 % 256),.int .u8 (v7 / 65536 % 256),.int .u8 (v7 / 256 % 256),.int .u8 (v7 % 256)]) (ok:=fun _=>True) (okp:=fun _=>True) ?hr ?hp (fun _ hk=>hk) trivial (Below.refl _ _) (Nat.le_refl _) (by simp [wordBytes]) ?_;(case hd=>rfl);(case hg=>rfl);(case hr=>first|(go_simp;done)|(go_simp;rfl));(case hp=>exact Reps.one (show Kd.M (Kd.int .u8) _ _ _ (v7 / 16777216 % 256) [.int .u8 (v7 / 16777216 % 256)] from rfl) (Reps.one (show Kd.M (Kd.int .u8) _ _ _ (v7 / 65536 % 256) [.int .u8 (v7 / 65536 % 256)] from rfl) (Reps.one (show Kd.M (Kd.int .u8) _ _ _ (v7 / 256 % 256) [.int .u8 (v7 / 256 % 256)] from rfl) (Reps.one (show Kd.M (Kd.int .u8) _ _ _ (v7 % 256) [.int .u8 (v7 % 256)] from rfl) (Reps.none _ _)))));intro vl wl ho hb hg_ hn_;clear hg_ hn_;have n0:=am_ (Kd.R_elder' HR1.out (Kd.R_base ho) hb);have n1:=am_ (Kd.R_lower (Kd.R_new' ho (Kd.R_lt HR1.out)) (below_size HB1.out));have n2:=am_ (below_step HB1.out hb);clear HR1 HB1 ho hb;have HR1:=n0;have HO1:=n1;have HB1:=n2;clear n0 n1 n2;obtain ⟨Ao,co,eo⟩:=Kd.R_slice HO1.out;subst eo)
       | ((with_reducible refine gate_builtin (b:=.append) (xs:=#[.tmp 22,.tmp 34]) rfl ?_);at_builtin;refine Kd.R_append_rows (Kd.int .u8) (w0:=W) W.heap.size rfl (.tmp 22) (.tmp 34) 27 5 (.int .u8 0) 1 rfl Tryz.underlying27 info5 rfl (by decide) (by omega) u6 (outBytes [v0,v1,v2,v3,v4,v5,v6,v7] 7) (wordBytes v7) _ _ _ (fun k_=>some k_ ≠ (.slice Ao (wordBytes v7).length co:Value).ownBlock) (fun _=>False) rfl rfl (Kd.R_mono HR1.out (fun _ hk=>hk.2)) (Kd.R_reads' HO1.out).2.2 (fun _ _ h=>h) (fun _ h=>h.elim) (fun k_ hk=>Kd.fresh' (Kd.R_lt HO1.out) k_ hk) HB1.out (below_size HB1.out) (by simp [outBytes,wordBytes]) ?_;intro va wa ho hb hg_ hn_;clear hg_ hn_))
      go_roundw
      case rel => exact ⟨8,by omega,by go_num,⟨Kd.R_mono ho (fun _ _=>trivial)⟩,⟨hb⟩⟩
      case measure => simp [intOf]
    ·obtain rfl:k=8:=by omega
     have b20:decide (((8:Nat):Int) < 8)=false:=by decide
     have hcv:=own_string (P:=Tryz.prog) Tryz.underlying27 Tryz.underlying5 Tryz.underlying9 (Kd.own_of_R HR1.out)
     go_wp2
     have hK':wr.heap[D]?=some (.deferred (some [])):=(HB1.out.block D (Array.getElem?_eq_some_iff.1 HKD.out).1).trans HKD.out
     refine ⟨by simp,.inl ⟨_,_,rfl,run_takeDeferred hK',?_⟩⟩
     have hsha:sha l0=strOfNums (outBytes [v0,v1,v2,v3,v4,v5,v6,v7] 8):=by
      rw [sha,shaBytes,HV.out]
     have hBz:Below w.heap.size w (wr.putObj D (.deferred none)):=by
      have hsz:=HBB.out.size
      have hD:=HD.out
      have h1:Below w.heap.size w wr:=HBB.out.trans (HB1.out.mono hsz)
      have h2:=HL.out.2
      have h3:=HB3.out.size
      have h4:=HS4.out
      exact h1.trans (belowK_b (w:=w) (Nat.le_refl _) wr D _ _ (by omega) hK' rfl rfl)
     rw [hsha]
     refine ⟨.string (strOfNums (outBytes [v0,v1,v2,v3,v4,v5,v6,v7] 8)),?_,rfl,hBz⟩
     simp [results,Tryz.f133,go_sem]
 ·rw [if_neg hl] at h
  cases h
end Go.Proofs.YtnlndmoecljicaaGreat.Q
end
section
namespace Go.Proofs.YtnlndmoecljicaaGreat.Q
open Go.Proofs.YtnlndmoecljicaaGreat.B Go.Proofs.YtnlndmoecljicaaGreatW.PrintMore Go.Proofs.YtnlndmoecljicaaGreatW.PrintWords Go.RowKit
set_option maxHeartbeats 8000000
set_option maxRecDepth 100000
def U (x:Int):Prop:=0≤x∧x < 4294967296
theorem U_bits (op:BinOp) (a b:Int):U (Go.bits op .u32 a b):=by
 unfold Go.bits U
 rw [IntKind.wrap_u32]
 omega
theorem U_mod (x:Int):U (x % 4294967296):=by unfold U;omega
theorem wraps63 (n:Int) (h₀:0≤n) (h₁:n < 2 ^ 63):IntKind.i64.wrap n=n:=by rw [IntKind.wrap_i64];omega
theorem wraps32 (n:Int) (h₀:0≤n) (h₁:n < 2 ^ 32):IntKind.u32.wrap n=n:=by rw [IntKind.wrap_u32];omega
theorem bits_xor_nat (k:IntKind) (j:Nat) (hj:j≤k.bits) (hk:∀ n:Int,0≤n->n < 2 ^ j->k.wrap n=n) (a b:Nat) (ha:a < 2 ^ j) (hb:b < 2 ^ j):Go.bits .xor k a b=((a ^^^ b:Nat):Int):=by
 have hp:2 ^ j≤2 ^ k.bits:=Nat.pow_le_pow_right (by decide) hj
 have ha':a % 2 ^ k.bits=a:=Nat.mod_eq_of_lt (Nat.lt_of_lt_of_le ha hp)
 have hb':b % 2 ^ k.bits=b:=Nat.mod_eq_of_lt (Nat.lt_of_lt_of_le hb hp)
 have cast:∀ n:Nat,n < 2 ^ j->((n:Nat):Int) < 2 ^ j:=fun n h=>by exact_mod_cast h
 simp only [Go.bits,BitVec.ofInt_natCast,BitVec.toNat_xor,BitVec.toNat_ofNat,ha',hb']
 exact hk _ (Int.natCast_nonneg _) (cast _ (Nat.xor_lt_two_pow ha hb))
theorem xor_eq {a b:Int} (ha:U a) (hb:U b):Go.bits .xor .i64 a b=Go.bits .xor .u32 a b:=by
 obtain ⟨a,rfl⟩:=Int.eq_ofNat_of_zero_le ha.1
 obtain ⟨b,rfl⟩:=Int.eq_ofNat_of_zero_le hb.1
 have h1:=ha.2
 have h2:=hb.2
 rw [bits_xor_nat .i64 63 (by decide) wraps63 a b (by omega) (by omega),bits_xor_nat .u32 32 (by decide) wraps32 a b (by omega) (by omega)]
theorem and_eq {a b:Int} (ha:U a) (hb:U b):Go.bits .and .i64 a b=Go.bits .and .u32 a b:=by
 obtain ⟨a,rfl⟩:=Int.eq_ofNat_of_zero_le ha.1
 obtain ⟨b,rfl⟩:=Int.eq_ofNat_of_zero_le hb.1
 have h1:=ha.2
 have h2:=hb.2
 rw [(bits_nat .i64 63 (by decide) wraps63 a b (by omega) (by omega)).1,(bits_nat .u32 32 (by decide) wraps32 a b (by omega) (by omega)).1]
theorem or_eq {a b:Int} (ha:U a) (hb:U b):Go.bits .or .i64 a b=Go.bits .or .u32 a b:=by
 obtain ⟨a,rfl⟩:=Int.eq_ofNat_of_zero_le ha.1
 obtain ⟨b,rfl⟩:=Int.eq_ofNat_of_zero_le hb.1
 have h1:=ha.2
 have h2:=hb.2
 rw [(bits_nat .i64 63 (by decide) wraps63 a b (by omega) (by omega)).2,(bits_nat .u32 32 (by decide) wraps32 a b (by omega) (by omega)).2]
theorem mask32 {x:Int} (h0:0≤x) (h1:x < 9223372036854775808):Go.bits .and .i64 x 4294967295=x % 4294967296 :=
 bits_mask .i64 63 (by decide) wraps63 32 (by decide) x h0 h1
theorem xor3_eq {a b c:Int} (ha:U a) (hb:U b) (hc:U c):Go.bits .xor .i64 (Go.bits .xor .i64 a b) c=Go.bits .xor .u32 (Go.bits .xor .u32 a b) c:=by
 rw [xor_eq ha hb,xor_eq (U_bits _ _ _) hc]
theorem U_rotr (a:Int) (n:Nat):U (rotr a n):=U_bits _ _ _
theorem turn_eq {a:Int} (n:Nat) (ha:U a) (h2:2≤n) (hn:n≤32) (i1:IntKind.u64.wrap (n:Int)=n) (i2:IntKind.u64.wrap (wrap64 (32 - (n:Int)))=32 - (n:Int)):spec_l2Turn.f a n=some (rotr a n):=by
 unfold spec_l2Turn.f rotr
 rw [i1,i2,if_pos (by omega),if_pos (by omega)]
 congr 1
 obtain ⟨a,rfl⟩:=Int.eq_ofNat_of_zero_le ha.1
 have h1:a < 2 ^ 32:=by have:=ha.2;omega
 have hsub:(32 - (n:Int)).toNat=32 - n:=by omega
 have e1:shr .i64 (a:Int) n=((a / 2 ^ n:Nat):Int):=by
  unfold shr
  rw [show min (n:Int).toNat IntKind.i64.bits=n from by simp [IntKind.bits] <;> omega]
  simp
 have e2:shr .u32 (a:Int) n=((a / 2 ^ n:Nat):Int):=by
  unfold shr
  rw [show min (n:Int).toNat IntKind.u32.bits=n from by simp [IntKind.bits] <;> omega]
  simp
 have hpow:a * 2 ^ (32 - n) < 2 ^ 62:=by
  have:2 ^ (32 - n)≤2 ^ 30:=Nat.pow_le_pow_right (by decide) (by omega)
  calc a * 2 ^ (32 - n)≤a * 2 ^ 30:=Nat.mul_le_mul_left _ this
   _ < 2 ^ 32 * 2 ^ 30:=Nat.mul_lt_mul_of_pos_right h1 (by decide)
   _=2 ^ 62:=by decide
 have hcast:((a:Int) * 2 ^ (32 - n))=((a * 2 ^ (32 - n):Nat):Int):=by simp
 have e3:shl .i64 (a:Int) (32 - (n:Int))=((a * 2 ^ (32 - n):Nat):Int):=by
  unfold shl
  rw [show min (32 - (n:Int)).toNat IntKind.i64.bits=32 - n from by simp [IntKind.bits] <;> omega,hcast,wraps63 _ (by omega) (by omega)]
 have e4:shl .u32 (a:Int) (32 - (n:Int))=((a * 2 ^ (32 - n) % 2 ^ 32:Nat):Int):=by
  unfold shl
  rw [show min (32 - (n:Int)).toNat IntKind.u32.bits=32 - n from by simp [IntKind.bits] <;> omega,hcast,IntKind.wrap_u32]
  omega
 have hd:a / 2 ^ n < 2 ^ 32:=Nat.lt_of_le_of_lt (Nat.div_le_self _ _) h1
 rw [e1,e2,e3,e4,(bits_nat .i64 63 (by decide) wraps63 _ _ (by omega) (by omega)).2]
 have hor:a / 2 ^ n ||| a * 2 ^ (32 - n) < 2 ^ 63:=Nat.or_lt_two_pow (by omega) (by omega)
 rw [mask32 (by omega) (by omega),(bits_nat .u32 32 (by decide) wraps32 _ _ (Nat.mod_lt _ (by decide)) hd).2]
 have hm:(a / 2 ^ n ||| a * 2 ^ (32 - n)) % 2 ^ 32=a * 2 ^ (32 - n) % 2 ^ 32 ||| a / 2 ^ n:=by
  rw [Nat.or_mod_two_pow,Nat.mod_eq_of_lt hd,Nat.or_comm]
 rw [← hm]
 simp
theorem turn2 {a:Int} (ha:U a):spec_l2Turn.f a 2=some (rotr a 2):=turn_eq 2 ha (by decide) (by decide) (by decide +kernel) (by decide +kernel)
theorem turn6 {a:Int} (ha:U a):spec_l2Turn.f a 6=some (rotr a 6):=turn_eq 6 ha (by decide) (by decide) (by decide +kernel) (by decide +kernel)
theorem turn7 {a:Int} (ha:U a):spec_l2Turn.f a 7=some (rotr a 7):=turn_eq 7 ha (by decide) (by decide) (by decide +kernel) (by decide +kernel)
theorem turn11 {a:Int} (ha:U a):spec_l2Turn.f a 11=some (rotr a 11):=turn_eq 11 ha (by decide) (by decide) (by decide +kernel) (by decide +kernel)
theorem turn13 {a:Int} (ha:U a):spec_l2Turn.f a 13=some (rotr a 13):=turn_eq 13 ha (by decide) (by decide) (by decide +kernel) (by decide +kernel)
theorem turn17 {a:Int} (ha:U a):spec_l2Turn.f a 17=some (rotr a 17):=turn_eq 17 ha (by decide) (by decide) (by decide +kernel) (by decide +kernel)
theorem turn18 {a:Int} (ha:U a):spec_l2Turn.f a 18=some (rotr a 18):=turn_eq 18 ha (by decide) (by decide) (by decide +kernel) (by decide +kernel)
theorem turn19 {a:Int} (ha:U a):spec_l2Turn.f a 19=some (rotr a 19):=turn_eq 19 ha (by decide) (by decide) (by decide +kernel) (by decide +kernel)
theorem turn22 {a:Int} (ha:U a):spec_l2Turn.f a 22=some (rotr a 22):=turn_eq 22 ha (by decide) (by decide) (by decide +kernel) (by decide +kernel)
theorem turn25 {a:Int} (ha:U a):spec_l2Turn.f a 25=some (rotr a 25):=turn_eq 25 ha (by decide) (by decide) (by decide +kernel) (by decide +kernel)
theorem be_eq {b0 b1 b2 b3:Int} (h0:0≤b0∧b0≤255) (h1:0≤b1∧b1≤255) (h2:0≤b2∧b2≤255) (h3:0≤b3∧b3≤255) :
  Go.bits .or .i64 (Go.bits .or .i64 (Go.bits .or .i64 (wrap64 (wrap64 b0 * 16777216)) (wrap64 (wrap64 b1 * 65536))) (wrap64 (wrap64 b2 * 256))) (wrap64 b3) =
  Go.bits .or .u32 (Go.bits .or .u32 (Go.bits .or .u32 (b0 % 4294967296 * 16777216 % 4294967296) (b1 % 4294967296 * 65536 % 4294967296)) (b2 % 4294967296 * 256 % 4294967296)) (b3 % 4294967296):=by
 have e0:b0 % 4294967296 * 16777216 % 4294967296=wrap64 (wrap64 b0 * 16777216):=by rw [w64 (x:=b0) (by omega) (by omega),w64 (by omega) (by omega)];omega
 have e1:b1 % 4294967296 * 65536 % 4294967296=wrap64 (wrap64 b1 * 65536):=by rw [w64 (x:=b1) (by omega) (by omega),w64 (by omega) (by omega)];omega
 have e2:b2 % 4294967296 * 256 % 4294967296=wrap64 (wrap64 b2 * 256):=by rw [w64 (x:=b2) (by omega) (by omega),w64 (by omega) (by omega)];omega
 have e3:b3 % 4294967296=wrap64 b3:=by rw [w64 (x:=b3) (by omega) (by omega)];omega
 rw [← e0,← e1,← e2,← e3,or_eq (U_mod _) (U_mod _),or_eq (U_bits _ _ _) (U_mod _),or_eq (U_bits _ _ _) (U_mod _)]
theorem getD_range {p:Int->Prop} {bs:List Int} (h:∀ x ∈ bs,p x) (h0:p 0) (i:Nat):p (bs.getD i 0):=by
 rw [List.getD_eq_getElem?_getD]
 rcases hx:bs[i]? with _|x
 ·exact h0
 ·exact h x (List.mem_of_getElem? hx)
theorem rd_range {p:Int->Prop} {bs:List Int} (h:∀ x ∈ bs,p x) (h0:p 0) (i:Int):p (rd bs i):=getD_range h h0 _
theorem U0:U 0:=by unfold U;omega
theorem wAt_U (bs:List Int) (i:Nat):∀ x ∈ wAt bs i,U x:=by
 induction i with
 | zero =>
  intro x hx
  simp [wAt] at hx
  rw [hx]
  exact U0
 | succ i ih =>
  intro x hx
  simp only [wAt] at hx
  rcases List.mem_or_eq_of_mem_set hx with hx|rfl
  ·exact ih x hx
  ·split
   ·exact U_bits _ _ _
   ·exact U_mod _
theorem rd_take {l:List Int} {i j:Nat} (h:j < i):rd (l.take i) (j:Int)=l.getD j 0:=by
 unfold rd
 rw [Int.toNat_natCast,List.getD_eq_getElem?_getD,List.getElem?_take,if_pos h,List.getD_eq_getElem?_getD]
theorem wAt_next (bs:List Int) (i:Nat) (hi:i < 64):(wAt bs (i+1)).take (i+1)=(wAt bs i).take i ++ [if i < 16 then be32 bs i else wMix ((wAt bs i).getD (i - 16) 0) ((wAt bs i).getD (i - 15) 0) ((wAt bs i).getD (i - 7) 0) ((wAt bs i).getD (i - 2) 0)]:=by
 simp only [wAt]
 exact set_take _ (by rw [wAt_length];exact hi)
theorem taken_length (bs:List Int) (i:Nat) (hi:i≤64):((wAt bs i).take i).length=i:=by rw [List.length_take,wAt_length];omega
theorem mix_eq {a16 a15 a7 a2:Int} (h16:U a16) (h15:U a15) (h7:U a7) (h2:U a2) :
  Go.bits .and .i64 (wrap64 ((wrap64 ((wrap64 (a16+(Go.bits .xor .i64 (Go.bits .xor .i64 (rotr a15 7) (rotr a15 18)) (a15 / 8)))) + a7)) + (Go.bits .xor .i64 (Go.bits .xor .i64 (rotr a2 17) (rotr a2 19)) (a2 / 1024)))) 4294967295=wMix a16 a15 a7 a2:=by
 have d15:U (a15 / 8):=by unfold U at *;omega
 have d2:U (a2 / 1024):=by unfold U at *;omega
 rw [xor3_eq (U_rotr _ _) (U_rotr _ _) d15,xor3_eq (U_rotr _ _) (U_rotr _ _) d2]
 unfold wMix
 have u1:=U_bits .xor (Go.bits .xor .u32 (rotr a15 7) (rotr a15 18)) (a15 / 8)
 have u2:=U_bits .xor (Go.bits .xor .u32 (rotr a2 17) (rotr a2 19)) (a2 / 1024)
 generalize Go.bits .xor .u32 (Go.bits .xor .u32 (rotr a15 7) (rotr a15 18)) (a15 / 8)=s1 at u1 ⊢
 generalize Go.bits .xor .u32 (Go.bits .xor .u32 (rotr a2 17) (rotr a2 19)) (a2 / 1024)=s2 at u2 ⊢
 unfold U at *
 rw [w64 (x:=a16+s1) (by omega) (by omega),w64 (x:=a16+s1+a7) (by omega) (by omega),w64 (by omega) (by omega),mask32 (by omega) (by omega)]
theorem words_l1 (bs:List Int):∀ (d i:Nat),i+d=64->16≤i->Ev (fun k=>spec_l2Words.l1 k ((wAt bs i).take i) (i:Int)) (wAt bs 64):=by
 intro d
 induction d with
 | zero =>
  intro i hi _
  obtain rfl:i=64:=by omega
  refine Ev.step (f:=fun _=>some ((wAt bs 64).take 64)) (fun k=>?_) (Ev.one (Ev.now _) (List.take_of_length_le (by rw [wAt_length];exact Nat.le_refl _)))
  simp only [spec_l2Words.l1]
  rw [if_neg (by omega)]
 | succ d ih =>
  intro i hi h16
  have hlen:=taken_length bs i (by omega)
  have u:∀ j,U ((wAt bs i).getD j 0):=fun j=>getD_range (wAt_U bs i) U0 j
  refine Ev.step (fun k=>?_) (Ev.one (ih (i+1) (by omega) (by omega)) rfl)
  simp only [spec_l2Words.l1]
  rw [if_pos (by omega),w64 (x:=(i:Int) - 15) (by omega) (by omega),w64 (x:=(i:Int) - 2) (by omega) (by omega),w64 (x:=(i:Int) - 16) (by omega) (by omega),w64 (x:=(i:Int) - 7) (by omega) (by omega),w64 (x:=(i:Int) + 1) (by omega) (by omega),if_pos (by omega),if_pos (by omega),if_pos (by omega),if_pos (by omega)]
  rw [show (i:Int) - 15=((i - 15:Nat):Int) from by omega,show (i:Int) - 2=((i - 2:Nat):Int) from by omega,show (i:Int) - 16=((i - 16:Nat):Int) from by omega,show (i:Int) - 7=((i - 7:Nat):Int) from by omega]
  rw [rd_take (by omega),rd_take (by omega),rd_take (by omega),rd_take (by omega)]
  rw [turn7 (u _),turn18 (u _),turn17 (u _),turn19 (u _)]
  simp only [Option.bind_some]
  rw [if_pos (by omega),if_pos (by omega),if_pos (by omega),if_pos (by omega),if_pos (by omega)]
  rw [mix_eq (u _) (u _) (u _) (u _),wAt_next bs i (by omega),if_neg (show ¬ i < 16 by omega)]
  rfl
theorem words_l0 (bs:List Int) (hl:bs.length=64) (hb:∀ x ∈ bs,0≤x∧x≤255):∀ (d i:Nat),i+d=16->Ev (fun k=>spec_l2Words.l0 k bs ((wAt bs i).take i) (i:Int)) (wAt bs 64):=by
 intro d
 induction d with
 | zero =>
  intro i hi
  obtain rfl:i=16:=by omega
  refine Ev.step (fun k=>?_) (words_l1 bs 48 16 (by omega) (by omega))
  simp only [spec_l2Words.l0]
  rw [if_neg (by omega)]
  rfl
 | succ d ih =>
  intro i hi
  have hlen:=taken_length bs i (by omega)
  have u:∀ j,0≤rd bs j∧rd bs j≤255:=fun j=>rd_range hb (by omega) j
  refine Ev.step (fun k=>?_) (ih (i+1) (by omega))
  simp only [spec_l2Words.l0]
  rw [if_pos (by omega),w64 (x:=4 * (i:Int)) (by omega) (by omega),w64 (x:=4 * (i:Int) + 1) (by omega) (by omega),w64 (x:=4 * (i:Int) + 2) (by omega) (by omega),w64 (x:=4 * (i:Int) + 3) (by omega) (by omega),w64 (x:=(i:Int) + 1) (by omega) (by omega)]
  rw [if_pos (by omega),if_pos (by omega),if_pos (by omega),if_pos (by omega),if_pos (by omega),if_pos (by omega),if_pos (by omega),if_pos (by omega),if_pos (by omega)]
  rw [be_eq (u _) (u _) (u _) (u _),wAt_next bs i (by omega),if_pos (show i < 16 by omega)]
  rfl
theorem words_ev (bs:List Int) (hl:bs.length=64) (hb:∀ x ∈ bs,0≤x∧x≤255):Ev (fun k=>spec_l2Words.f k bs) (wAt bs 64):=words_l0 bs hl hb 16 0 rfl
theorem U_step (kc wc:Int) (v:List Int) (h:∀ x ∈ v,U x):∀ x ∈ turnStep kc wc v,U x:=by
 unfold turnStep
 split
 ·rename_i a b c d e f g h'
  intro x hx
  simp only [List.mem_cons,List.not_mem_nil,or_false] at hx h
  rcases hx with rfl|rfl|rfl|rfl|rfl|rfl|rfl|rfl
  ·exact U_mod _
  ·exact h _ (by simp)
  ·exact h _ (by simp)
  ·exact h _ (by simp)
  ·exact U_mod _
  ·exact h _ (by simp)
  ·exact h _ (by simp)
  ·exact h _ (by simp)
 ·exact h
theorem vAt_U (ks ws hs:List Int) (h:∀ x ∈ hs,U x) (i:Nat):∀ x ∈ vAt ks ws hs i,U x:=by
 induction i with
 | zero=>exact h
 | succ i ih=>exact U_step _ _ _ ih
theorem U_max:U 4294967295:=by unfold U;omega
theorem step_eq {a b c d e f g h kc wc:Int} (ha:U a) (hb:U b) (hc:U c) (hd:U d) (he:U e) (hf:U f) (hg:U g) (hh:U h) (hk:U kc) (hw:U wc) :
  ([Go.bits .and .i64 (wrap64 ((wrap64 ((wrap64 ((wrap64 ((wrap64 (h+(Go.bits .xor .i64 (Go.bits .xor .i64 (rotr e 6) (rotr e 11)) (rotr e 25)))) + (Go.bits .xor .i64 (Go.bits .and .i64 e f) (Go.bits .and .i64 (Go.bits .xor .i64 4294967295 e) g)))) + kc)) + wc)) + (wrap64 ((Go.bits .xor .i64 (Go.bits .xor .i64 (rotr a 2) (rotr a 13)) (rotr a 22)) + (Go.bits .xor .i64 (Go.bits .xor .i64 (Go.bits .and .i64 a b) (Go.bits .and .i64 a c)) (Go.bits .and .i64 b c)))))) 4294967295,a,b,c,
   Go.bits .and .i64 (wrap64 (d+(wrap64 ((wrap64 ((wrap64 ((wrap64 (h+(Go.bits .xor .i64 (Go.bits .xor .i64 (rotr e 6) (rotr e 11)) (rotr e 25)))) + (Go.bits .xor .i64 (Go.bits .and .i64 e f) (Go.bits .and .i64 (Go.bits .xor .i64 4294967295 e) g)))) + kc)) + wc)))) 4294967295,e,f,g]:List Int)=turnStep kc wc [a,b,c,d,e,f,g,h]:=by
 rw [xor3_eq (U_rotr _ _) (U_rotr _ _) (U_rotr _ _),xor3_eq (U_rotr _ _) (U_rotr _ _) (U_rotr _ _),and_eq he hf,xor_eq U_max he,and_eq (U_bits _ _ _) hg,xor_eq (U_bits _ _ _) (U_bits _ _ _),and_eq ha hb,and_eq ha hc,and_eq hb hc,xor3_eq (U_bits _ _ _) (U_bits _ _ _) (U_bits _ _ _)]
 unfold turnStep tT1 tS1 tS0 tMaj
 simp only []
 rw [show IntKind.u32.max=4294967295 from by decide]
 have u1:=U_bits .xor (Go.bits .xor .u32 (rotr e 6) (rotr e 11)) (rotr e 25)
 have u2:=U_bits .xor (Go.bits .and .u32 e f) (Go.bits .and .u32 (Go.bits .xor .u32 4294967295 e) g)
 have u3:=U_bits .xor (Go.bits .xor .u32 (rotr a 2) (rotr a 13)) (rotr a 22)
 have u4:=U_bits .xor (Go.bits .xor .u32 (Go.bits .and .u32 a b) (Go.bits .and .u32 a c)) (Go.bits .and .u32 b c)
 generalize Go.bits .xor .u32 (Go.bits .xor .u32 (rotr e 6) (rotr e 11)) (rotr e 25)=s1 at u1 ⊢
 generalize Go.bits .xor .u32 (Go.bits .and .u32 e f) (Go.bits .and .u32 (Go.bits .xor .u32 4294967295 e) g)=s2 at u2 ⊢
 generalize Go.bits .xor .u32 (Go.bits .xor .u32 (rotr a 2) (rotr a 13)) (rotr a 22)=s3 at u3 ⊢
 generalize Go.bits .xor .u32 (Go.bits .xor .u32 (Go.bits .and .u32 a b) (Go.bits .and .u32 a c)) (Go.bits .and .u32 b c)=s4 at u4 ⊢
 unfold U at *
 rw [w64 (x:=h+s1) (by omega) (by omega),w64 (x:=h+s1+s2) (by omega) (by omega),w64 (x:=h+s1+s2+kc) (by omega) (by omega),w64 (x:=h+s1+s2+kc+wc) (by omega) (by omega),w64 (x:=s3+s4) (by omega) (by omega),w64 (x:=d+(h+s1+s2+kc+wc)) (by omega) (by omega),w64 (by omega) (by omega),mask32 (by omega) (by omega),mask32 (by omega) (by omega)]
 congr 1
 rw [Int.add_assoc (h+s1+s2+kc+wc) s3 s4]
theorem addAt_get (hs vs:List Int) (hv:vs.length=8) (hh:hs.length=8) (i:Nat) (hi:i≤8) (j:Nat) (hj:j < 8):(addAt hs vs i).getD j 0=if j < i then (hs.getD j 0+vs.getD j 0) % 4294967296 else hs.getD j 0:=by
 induction i with
 | zero=>simp [addAt]
 | succ i ih =>
  have ih:=ih (by omega)
  simp only [addAt]
  have hl:(addAt hs vs i).length=8:=by rw [addAt_length];exact hh
  by_cases hji:j=i
  ·subst hji
   rw [List.getD_eq_getElem?_getD,List.getElem?_set_self (by omega),if_pos (by omega)]
   rw [if_neg (by omega)] at ih
   rw [ih]
   rfl
  ·rw [List.getD_eq_getElem?_getD,List.getElem?_set_ne (fun h=>hji h.symm),← List.getD_eq_getElem?_getD,ih]
   by_cases h2:j < i
   ·rw [if_pos h2,if_pos (by omega)]
   ·rw [if_neg h2,if_neg (by omega)]
theorem block_l1 (hs vs:List Int) (hh:hs.length=8) (hv:vs.length=8) (uh:∀ x ∈ hs,U x) (uv:∀ x ∈ vs,U x):∀ (d i:Nat) (x:List Int),i+d=8->x.length=8->(∀ j,j < 8->x.getD j 0=if j < i then (hs.getD j 0+vs.getD j 0) % 4294967296 else vs.getD j 0) →
  Ev (fun k=>spec_l2Block.l1 k hs x (i:Int)) (addAt hs vs 8):=by
 intro d
 induction d with
 | zero =>
  intro i x hi hx hg
  obtain rfl:i=8:=by omega
  refine Ev.step (f:=fun _=>some x) (fun k=>?_) (Ev.one (Ev.now _) ?_)
  ·simp only [spec_l2Block.l1]
   rw [if_neg (by omega)]
  ·have hl:(addAt hs vs 8).length=8:=by rw [addAt_length];exact hh
   refine List.ext_getElem (by rw [hl,hx]) (fun j h1 h2=>?_)
   have e1:=hg j (by omega)
   have e2:=addAt_get hs vs hv hh 8 (by omega) j (by omega)
   rw [if_pos (by omega)] at e1 e2
   rw [← e2] at e1
   simpa [List.getD_eq_getElem?_getD,List.getElem?_eq_getElem h1,List.getElem?_eq_getElem h2] using e1
 | succ d ih =>
  intro i x hi hx hg
  have e1:=hg i (by omega)
  rw [if_neg (by omega)] at e1
  have u1:U (vs.getD i 0):=getD_range uv U0 i
  have u2:U (hs.getD i 0):=getD_range uh U0 i
  have hr1:rd x (i:Int)=vs.getD i 0:=by unfold rd;rw [Int.toNat_natCast];exact e1
  have hr2:rd hs (i:Int)=hs.getD i 0:=by unfold rd;rw [Int.toNat_natCast]
  refine Ev.step (fun k=>?_) (ih (i+1) (x.set i ((hs.getD i 0+vs.getD i 0) % 4294967296)) (by omega) (by simp [hx]) ?_)
  ·simp only [spec_l2Block.l1]
   unfold U at u1 u2
   rw [if_pos (by omega),if_pos (by omega),if_pos (by omega),if_pos (by omega),hr1,hr2,w64 (x:=(i:Int) + 1) (by omega) (by omega),w64 (by omega) (by omega),mask32 (by omega) (by omega),Int.toNat_natCast,Int.add_comm (vs.getD i 0)]
   rfl
  ·intro j hj
   by_cases hji:j=i
   ·subst hji
    rw [List.getD_eq_getElem?_getD,List.getElem?_set_self (by omega),if_pos (by omega)]
    rfl
   ·rw [List.getD_eq_getElem?_getD,List.getElem?_set_ne (fun h=>hji h.symm),← List.getD_eq_getElem?_getD,hg j hj]
    by_cases h2:j < i
    ·rw [if_pos h2,if_pos (by omega)]
    ·rw [if_neg h2,if_neg (by omega)]
theorem block_l0 (ks ws hs:List Int) (hk:ks.length=64) (hw:ws.length=64) (hh:hs.length=8) (uk:∀ x ∈ ks,U x) (uw:∀ x ∈ ws,U x) (uh:∀ x ∈ hs,U x):∀ (d i:Nat),i+d=64 →
  Ev (fun k=>spec_l2Block.l0 k hs ks ws (vAt ks ws hs i) (i:Int)) (addAt hs (vAt ks ws hs 64) 8):=by
 intro d
 induction d with
 | zero =>
  intro i hi
  obtain rfl:i=64:=by omega
  have hl:=vAt_eight ks ws hs hh 64
  refine Ev.step (fun k=>?_) (block_l1 hs (vAt ks ws hs 64) hh hl uh (vAt_U ks ws hs uh 64) 8 0 (vAt ks ws hs 64) rfl hl (fun j _=>by rw [if_neg (by omega)]))
  simp only [spec_l2Block.l0]
  rw [if_neg (by omega)]
  rfl
 | succ d ih =>
  intro i hi
  have hl:=vAt_eight ks ws hs hh i
  have uv:=vAt_U ks ws hs uh i
  have uki:U (ks.getD i 0):=getD_range uk U0 i
  have uwi:U (ws.getD i 0):=getD_range uw U0 i
  have hr1:rd ks (i:Int)=ks.getD i 0:=by unfold rd;rw [Int.toNat_natCast]
  have hr2:rd ws (i:Int)=ws.getD i 0:=by unfold rd;rw [Int.toNat_natCast]
  refine Ev.step (fun k=>?_) (ih (i+1) (by omega))
  have hv:vAt ks ws hs (i+1)=turnStep (ks.getD i 0) (ws.getD i 0) (vAt ks ws hs i):=rfl
  rw [hv]
  generalize vAt ks ws hs i=v at hl uv
  obtain ⟨a,b,c,d,e,f,g,h,rfl⟩:=eight hl
  simp only [List.mem_cons,List.not_mem_nil,or_false] at uv
  have ua:=uv a (by simp)
  have ub:=uv b (by simp)
  have uc:=uv c (by simp)
  have ud:=uv d (by simp)
  have ue:=uv e (by simp)
  have uf:=uv f (by simp)
  have ug:=uv g (by simp)
  have uh':=uv h (by simp)
  simp only [spec_l2Block.l0]
  rw [if_pos (by omega),show rd [a,b,c,d,e,f,g,h] 0=a from rfl,show rd [a,b,c,d,e,f,g,h] 1=b from rfl,show rd [a,b,c,d,e,f,g,h] 2=c from rfl,show rd [a,b,c,d,e,f,g,h] 3=d from rfl,show rd [a,b,c,d,e,f,g,h] 4=e from rfl,show rd [a,b,c,d,e,f,g,h] 5=f from rfl,show rd [a,b,c,d,e,f,g,h] 6=g from rfl,show rd [a,b,c,d,e,f,g,h] 7=h from rfl]
  rw [turn6 ue,turn11 ue,turn25 ue,turn2 ua,turn13 ua,turn22 ua,hr1,hr2]
  simp only [Option.bind_some]
  have l8:(([a,b,c,d,e,f,g,h]:List Int).length:Int)=8:=rfl
  rw [l8,hk,hw]
  rw [if_pos (by omega),if_pos (by omega),if_pos (by omega),if_pos (by omega),if_pos (by omega),if_pos (by omega),if_pos (by omega),if_pos (by omega),if_pos (by omega),if_pos (by omega),if_pos (by omega)]
  rw [step_eq ua ub uc ud ue uf ug uh' uki uwi,w64 (by omega) (by omega)]
  rfl
theorem block_ev (hs bs ks:List Int) (hk:ks.length=64) (hl:bs.length=64) (hh:hs.length=8) (hb:∀ x ∈ bs,0≤x∧x≤255) (uk:∀ x ∈ ks,U x) (uh:∀ x ∈ hs,U x):Ev (fun k=>spec_l2Block.f k hs bs ks) (turned ks bs hs):=by
 unfold spec_l2Block.f
 refine Ev.bind (words_ev bs hl hb) ?_
 refine Ev.congr (fun k=>?_) (block_l0 ks (wAt bs 64) hs hk (wAt_length bs 64) hh uk (wAt_U bs 64) uh 64 0 rfl)
 simp only [Option.bind_some,List.length_nil,List.nil_append]
 rw [if_pos (by omega)]
 rfl
theorem turned_U (ks bs hs:List Int) (hh:hs.length=8) (uh:∀ x ∈ hs,U x):∀ x ∈ turned ks bs hs,U x:=by
 intro x hx
 obtain ⟨j,hj,rfl⟩:=List.mem_iff_getElem.1 hx
 have hl:(turned ks bs hs).length=8:=by rw [turned_length];exact hh
 have:=addAt_get hs (vAt ks (wAt bs 64) hs 64) (vAt_eight _ _ _ hh 64) hh 8 (by omega) j (by omega)
 rw [if_pos (by omega)] at this
 have e:(turned ks bs hs)[j]=(turned ks bs hs).getD j 0:=by simp [List.getD_eq_getElem?_getD,hj]
 rw [e]
 unfold turned
 rw [this]
 exact U_mod _
theorem shaK_U:∀ x ∈ shaK,U x:=by
 have:shaK.all (fun x=>decide (0≤x) && decide (x < 4294967296))=true:=by decide
 intro x hx
 have:=List.all_eq_true.1 this x hx
 simp at this
 exact this
theorem shaH_U:∀ x ∈ shaH,U x:=by
 have:shaH.all (fun x=>decide (0≤x) && decide (x < 4294967296))=true:=by decide
 intro x hx
 have:=List.all_eq_true.1 this x hx
 simp at this
 exact this
theorem foldAt_U (p:List Int) (n:Nat):∀ x ∈ foldAt p (starts n),U x:=by
 induction n with
 | zero=>exact shaH_U
 | succ n ih =>
  rw [starts_succ,foldAt_snoc]
  exact turned_U _ _ _ (foldAt_length _ _) ih
theorem spadded_l1 (n:Int):∀ (j:Nat) (acc:List Int),j≤8->acc.length+j≤140737488355320->Ev (fun k=>spec_Padded.l1 k acc n (8 * (j:Int) - 8)) (acc ++ tailBytes n j):=by
 intro j
 induction j with
 | zero =>
  intro acc _ _
  refine Ev.step (f:=fun _=>some acc) (fun k=>?_) (Ev.one (Ev.now _) (by simp [tailBytes]))
  simp only [spec_Padded.l1]
  rw [if_neg (by omega)]
 | succ j ih =>
  intro acc h1 h2
  refine Ev.step (fun k=>?_) (Ev.one (ih (acc ++ [(shr .i64 n (8 * (j:Int))) % 256]) (by omega) (by simp;omega)) (by simp [tailBytes]))
  simp only [spec_Padded.l1]
  rw [show 8 * (((j+1:Nat):Int)) - 8=8 * (j:Int) from by omega,IntWalk.u64_in _ ⟨by omega,by omega⟩,if_pos (by omega),if_pos (by omega),if_pos (by omega),w64 (by omega) (by omega)]
theorem spadded_l0 (l:List Int) (hl:l.length≤1099511627776):∀ (d i:Nat) (acc:List Int),i+d=zerosOf l.length->acc=l ++ [128] ++ List.replicate i 0->Ev (fun k=>spec_Padded.l0 k l acc) (padL l):=by
 intro d
 induction d with
 | zero =>
  intro i acc hi ha
  have hlen:acc.length=l.length+1+i:=by rw [ha];simp;omega
  have hz:zerosOf l.length=(119 - l.length % 64) % 64:=rfl
  refine Ev.step (fun k=>?_) (Ev.one (spadded_l1 (8 * (l.length:Int)) 8 acc (by omega) (by omega)) ?_)
  ·simp only [spec_Padded.l0]
   rw [if_pos (by omega),w64 (by omega) (by omega),Int.mul_comm]
   rfl
  ·rw [ha,show i=zerosOf l.length from by omega]
   rfl
 | succ d ih =>
  intro i acc hi ha
  have hlen:acc.length=l.length+1+i:=by rw [ha];simp;omega
  have hz:zerosOf l.length=(119 - l.length % 64) % 64:=rfl
  refine Ev.step (fun k=>?_) (ih (i+1) (acc ++ [0]) (by omega) (by rw [ha,List.append_assoc (l ++ [128])];congr 1;rw [List.replicate_succ']))
  simp only [spec_Padded.l0]
  rw [if_neg (by omega),if_pos (by omega)]
theorem spec_Padded_ev (l:List Int) (hl:l.length≤1099511627776):Ev (fun k=>spec_Padded.f k l) (padL l):=by
 refine Ev.congr (fun k=>?_) (spadded_l0 l hl (zerosOf l.length) 0 (l ++ [128]) (by omega) (by simp))
 unfold spec_Padded.f
 simp only [Option.bind_some,List.length_nil,List.nil_append]
 rw [if_pos (by omega),if_pos (by omega)]
theorem outBytes_succ (hs:List Int) (i:Nat) (h:i < hs.length):outBytes hs (i+1)=outBytes hs i ++ wordBytes (hs.getD i 0):=by
 unfold outBytes
 have hx:hs[i]?=some (hs.getD i 0):=by simp [List.getD_eq_getElem?_getD,h]
 rw [take_one hx,List.flatMap_append]
 simp
theorem wordBytes_length (x:Int):(wordBytes x).length=4:=rfl
theorem outBytes_length (hs:List Int) (i:Nat) (h:i≤hs.length):(outBytes hs i).length=4 * i:=by
 induction i with
 | zero=>simp [outBytes]
 | succ i ih =>
  rw [outBytes_succ hs i h,List.length_append,ih (by omega),wordBytes_length]
  omega
theorem sdigest_l1 (hs:List Int) (hh:hs.length=8):∀ (d i:Nat),i+d=8->Ev (fun k=>spec_Digest.l1 k hs (outBytes hs i) (i:Int)) (strOfNums (outBytes hs 8)):=by
 intro d
 induction d with
 | zero =>
  intro i hi
  obtain rfl:i=8:=by omega
  refine Ev.step (f:=fun _=>some (strOfNums (outBytes hs 8))) (fun k=>?_) (Ev.now _)
  simp only [spec_Digest.l1]
  rw [if_neg (by omega)]
 | succ d ih =>
  intro i hi
  have hr:rd hs (i:Int)=hs.getD i 0:=by unfold rd;rw [Int.toNat_natCast]
  have ho:=outBytes_length hs i (by omega)
  refine Ev.step (fun k=>?_) (ih (i+1) (by omega))
  simp only [spec_Digest.l1,Option.bind_some,List.length_cons,List.length_nil]
  rw [if_pos (by omega),if_pos (by omega),if_pos (by omega),if_pos (by omega),hr,w64 (by omega) (by omega),outBytes_succ hs i (by omega)]
  rfl
theorem blockAt_mem {p:List Int} {x:Nat} {y:Int} (h:y ∈ blockAt p x):y ∈ p:=List.mem_of_mem_drop (List.mem_of_mem_take h)
theorem sdigest_l0 (p:List Int) (hp:p.length % 64=0) (hl:p.length≤2199023255552) (hb:∀ x ∈ p,0≤x∧x≤255):∀ (d i:Nat),i+d=p.length / 64->Ev (fun k=>spec_Digest.l0 k p (foldAt p (starts i)) shaK (64 * (i:Int))) (strOfNums (outBytes (foldAt p (starts (p.length / 64))) 8)):=by
 intro d
 induction d with
 | zero =>
  intro i hi
  obtain rfl:i=p.length / 64:=by omega
  refine Ev.step (fun k=>?_) (sdigest_l1 _ (foldAt_length _ _) 8 0 rfl)
  simp only [spec_Digest.l0]
  rw [if_neg (by omega)]
  rfl
 | succ d ih =>
  intro i hi
  have hbl:(blockAt p (64 * i)).length=64:=by simp [blockAt];omega
  have hbe:(p.take (64 * (i:Int) + 64).toNat).drop (64 * (i:Int)).toNat=blockAt p (64 * i):=by
   rw [show (64 * (i:Int) + 64).toNat=64 * i+64 from by omega,show (64 * (i:Int)).toNat=64 * i from by omega,List.drop_take]
   unfold blockAt
   congr 1
   omega
  have hB:=block_ev (foldAt p (starts i)) (blockAt p (64 * i)) shaK rfl hbl (foldAt_length _ _) (fun x hx=>hb x (blockAt_mem hx)) shaK_U (foldAt_U p i)
  have hI:=ih (i+1) (by omega)
  rw [starts_succ,foldAt_snoc] at hI
  refine Ev.step (fun k=>?_) (Ev.bind (f:=fun k t=>spec_Digest.l0 k p t shaK (64 * ((i+1:Nat):Int))) hB hI)
  simp only [spec_Digest.l0]
  rw [w64 (x:=64 * (i:Int) + 64) (by omega) (by omega),if_pos (by omega),if_pos (by omega),if_pos (by omega),if_pos (by omega),hbe]
  rfl
theorem spec_Digest_ev (l:List Int) (hl:l.length≤1099511627776) (hb:∀ x ∈ l,0≤x∧x≤255):Ev (fun k=>spec_Digest.f k l) (sha l):=by
 unfold spec_Digest.f
 refine Ev.bind (spec_Padded_ev l hl) ?_
 have hs:=padL_size l
 refine Ev.congr (fun k=>?_) (sdigest_l0 (padL l) (padL_length l) (by omega) (padL_bytes l hb) ((padL l).length / 64) 0 (by omega))
 unfold spec_l2K.f
 rfl
theorem impl_Digest_is (l:List Int) (hl:l.length≤1099511627776):impl_Digest.f l=some (sha l):=if_pos hl
theorem sha_size (l:List Int):(sha l).size=32:=by
 unfold sha shaBytes
 have:=outBytes_length (foldAt (padL l) (starts ((padL l).length / 64))) 8 (by rw [foldAt_length];exact Nat.le_refl _)
 show ((outBytes (foldAt (padL l) (starts ((padL l).length / 64))) 8).map fun n=>UInt8.ofNat n.toNat).toArray.size=32
 simp [this]
end Go.Proofs.YtnlndmoecljicaaGreat.Q
end
