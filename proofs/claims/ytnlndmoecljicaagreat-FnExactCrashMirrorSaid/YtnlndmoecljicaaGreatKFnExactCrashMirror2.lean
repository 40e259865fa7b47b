-- Joined and shortened by a program of this session (wip/tools/shakecopy.py): the words of the print,texts of pp.sh and of mine.
import Derived.Test.YtnlndmoecljicaaGreatKFnExactCrashMirror1
import Derived.Lib.SliceRun
set_option linter.unusedVariables false
set_option linter.unusedSimpArgs false
section
namespace Go.Proofs.YtnlndmoecljicaaGreat.Q
open Go.Proofs.YtnlndmoecljicaaGreatW.PrintLast Go.Proofs.YtnlndmoecljicaaGreatW.PrintMore Go.Proofs.YtnlndmoecljicaaGreatW.PrintWords Go.RowKit
attribute [local go_sem] max2_int min2_int max_two min_two max_three min_three max_four min_four
set_option maxHeartbeats 8000000
set_option maxRecDepth 100000
def tS1 (e:Int):Int:=Go.bits .xor .u32 (Go.bits .xor .u32 (rotr e 6) (rotr e 11)) (rotr e 25)
def tS0 (a:Int):Int:=Go.bits .xor .u32 (Go.bits .xor .u32 (rotr a 2) (rotr a 13)) (rotr a 22)
def tT1 (e f g h kc wc:Int):Int:=h+tS1 e+Go.bits .xor .u32 (Go.bits .and .u32 e f) (Go.bits .and .u32 (Go.bits .xor .u32 IntKind.u32.max e) g) + kc+wc
def tMaj (a b c:Int):Int:=Go.bits .xor .u32 (Go.bits .xor .u32 (Go.bits .and .u32 a b) (Go.bits .and .u32 a c)) (Go.bits .and .u32 b c)
def turnStep (kc wc:Int):List Int->List Int
 | [a,b,c,d,e,f,g,h]=>[(tT1 e f g h kc wc+tS0 a+tMaj a b c) % 4294967296,a,b,c,(d+tT1 e f g h kc wc) % 4294967296,e,f,g]
 | l=>l
def vAt (ks ws hs:List Int):Nat->List Int
 | 0=>hs
 | i+1=>turnStep (ks.getD i 0) (ws.getD i 0) (vAt ks ws hs i)
theorem vAt_eight (ks ws hs:List Int) (h:hs.length=8) (k:Nat):(vAt ks ws hs k).length=8:=by
 induction k with
 | zero=>exact h
 | succ k ih =>
  simp only [vAt]
  match vAt ks ws hs k,ih with
  | [a,b,c,d,e,f,g,h],_=>rfl
theorem eight {l:List Int} (h:l.length=8):∃ v0 v1 v2 v3 v4 v5 v6 v7,l=[v0,v1,v2,v3,v4,v5,v6,v7]:=by
 match l,h with
 | [h0,h1,h2,h3,h4,h5,h6,h7],_=>exact ⟨h0,h1,h2,h3,h4,h5,h6,h7,rfl⟩
theorem eight_set {W:World} {gv:Nat} {T:TypeId} {v0 v1 v2 v3 v4 v5 v6 v7:Int} (n0 n1 n2 n3 n4 n5 n6 n7:Int) (h:W.heap[gv]?=some (.cells (arrU [v0,v1,v2,v3,v4,v5,v6,v7]) T (0,0))) :
  ((((((((W.setCell ⟨gv,0,none⟩ (.int .u32 n0)).setCell ⟨gv,1,none⟩ (.int .u32 n1)).setCell ⟨gv,2,none⟩ (.int .u32 n2)).setCell ⟨gv,3,none⟩ (.int .u32 n3)).setCell ⟨gv,4,none⟩ (.int .u32 n4)).setCell ⟨gv,5,none⟩ (.int .u32 n5)).setCell ⟨gv,6,none⟩ (.int .u32 n6)).setCell ⟨gv,7,none⟩ (.int .u32 n7)).heap[gv]?=some (.cells (arrU [n0,n1,n2,n3,n4,n5,n6,n7]) T (0,0)):=by
 have:=blk_set (blk_set (blk_set (blk_set (blk_set (blk_set (blk_set (blk_set h 0 (.int .u32 n0)) 1 (.int .u32 n1)) 2 (.int .u32 n2)) 3 (.int .u32 n3)) 4 (.int .u32 n4)) 5 (.int .u32 n5)) 6 (.int .u32 n6)) 7 (.int .u32 n7)
 simp only [arrU_set] at this
 exact this
theorem eight_below {B:Nat} {w W:World} (h:Below B w W) {gv:Nat} (hg:B≤gv) (u0 u1 u2 u3 u4 u5 u6 u7:Value) :
  Below B w ((((((((W.setCell ⟨gv,0,none⟩ u0).setCell ⟨gv,1,none⟩ u1).setCell ⟨gv,2,none⟩ u2).setCell ⟨gv,3,none⟩ u3).setCell ⟨gv,4,none⟩ u4).setCell ⟨gv,5,none⟩ u5).setCell ⟨gv,6,none⟩ u6).setCell ⟨gv,7,none⟩ u7) :=
 (((((((h.setCell (p:=⟨gv,0,none⟩) hg _).setCell (p:=⟨gv,1,none⟩) hg _).setCell (p:=⟨gv,2,none⟩) hg _).setCell (p:=⟨gv,3,none⟩) hg _).setCell (p:=⟨gv,4,none⟩) hg _).setCell (p:=⟨gv,5,none⟩) hg _).setCell (p:=⟨gv,6,none⟩) hg _).setCell (p:=⟨gv,7,none⟩) hg _
theorem eight_far {W:World} {g gv:Nat} {t:TypeId} {cs:Array Value} (h:W.heap[g]?=some (.cells cs t (0,0))) (hne:g ≠ gv) (u0 u1 u2 u3 u4 u5 u6 u7:Value) :
  ((((((((W.setCell ⟨gv,0,none⟩ u0).setCell ⟨gv,1,none⟩ u1).setCell ⟨gv,2,none⟩ u2).setCell ⟨gv,3,none⟩ u3).setCell ⟨gv,4,none⟩ u4).setCell ⟨gv,5,none⟩ u5).setCell ⟨gv,6,none⟩ u6).setCell ⟨gv,7,none⟩ u7).heap[g]?=some (.cells cs t (0,0)) :=
 blk_far (blk_far (blk_far (blk_far (blk_far (blk_far (blk_far (blk_far h hne _) hne _) hne _) hne _) hne _) hne _) hne _) hne _
def addAt (hs vs:List Int):Nat->List Int
 | 0=>hs
 | i+1=>(addAt hs vs i).set i (((addAt hs vs i).getD i 0+vs.getD i 0) % 4294967296)
theorem addAt_length (hs vs:List Int) (i:Nat):(addAt hs vs i).length=hs.length:=by
 induction i with
 | zero=>rfl
 | succ i ih=>simp [addAt,ih]
def turned (ks bs hs:List Int):List Int:=addAt hs (vAt ks (wAt bs 64) hs 64) 8
set_option maxHeartbeats 4000000 in
theorem turnBlock_calls (gh gk:Nat) (A:Option Addr) (c:Nat) (bs hs ks:List Int) (w:World) (hr:Kd.C (Kd.int .u8) w A bs.length bs) (hl:bs.length=64) (hh:hs.length=8) (hk:ks.length=64)
  (hgh:w.heap[gh]?=some (.cells (arrU hs) 159 (0,0))) (hgk:w.heap[gk]?=some (.cells (arrU ks) 170 (0,0))) :
  Calls Tryz.prog 159 #[.pointer (some ⟨gh,0,none⟩),.slice A bs.length c,.pointer (some ⟨gk,0,none⟩)] w fun e w'=>e = .returned (.tuple #[])∧w.grownBy w' (some gh)∧w'.heap[gh]?=some (.cells (arrU (turned ks bs hs)) 159 (0,0)):=by
 have HL:=am_ hl
 have HK:=am_ hk
 have HGH:=am_ hgh
 have HGK:=am_ hgk
 have HR:=am_ hr
 obtain ⟨h0,h1,h2,h3,h4,h5,h6,h7,rfl⟩:=eight hh
 clear hr hl hh hk hgh hgk
 go_enter Tryz.func159,Tryz.ntmps159
 go_wp2_with (go_at_call 170;(with_reducible refine (wordsOf_calls _ _ bs _ HR.out HL.out).mono ?_);rintro e w1 ⟨gw,rfl,hw1,hw2,hb⟩;have HW1:=am_ hw1;have HW2:=am_ hw2;have HB:=am_ hb;have HGH1:=am_ (blk_below HGH.out hb);have HGK1:=am_ (blk_below HGK.out hb);clear hw1 hw2 hb;have q0:=blk_cell HGH1.out 0;have q1:=blk_cell HGH1.out 1;have q2:=blk_cell HGH1.out 2;have q3:=blk_cell HGH1.out 3;have q4:=blk_cell HGH1.out 4;have q5:=blk_cell HGH1.out 5;have q6:=blk_cell HGH1.out 6;have q7:=blk_cell HGH1.out 7;simp only [arrU,nums,List.map_cons,List.map_nil,List.getElem?_toArray,List.getElem?_cons_zero,List.getElem?_cons_succ] at q0 q1 q2 q3 q4 q5 q6 q7)
 clear q0 q1 q2 q3 q4 q5 q6 q7
 have HGH2:=am_ (blk_alloc HGH1.out (.cells #[.int .u32 h0,.int .u32 h1,.int .u32 h2,.int .u32 h3,.int .u32 h4,.int .u32 h5,.int .u32 h6,.int .u32 h7] 159))
 have HGK2:=am_ (blk_alloc HGK1.out (.cells #[.int .u32 h0,.int .u32 h1,.int .u32 h2,.int .u32 h3,.int .u32 h4,.int .u32 h5,.int .u32 h6,.int .u32 h7] 159))
 have HW22:=am_ (blk_alloc HW2.out (.cells #[.int .u32 h0,.int .u32 h1,.int .u32 h2,.int .u32 h3,.int .u32 h4,.int .u32 h5,.int .u32 h6,.int .u32 h7] 159))
 have HN:=am_ (blk_new w1 (.cells #[.int .u32 h0,.int .u32 h1,.int .u32 h2,.int .u32 h3,.int .u32 h4,.int .u32 h5,.int .u32 h6,.int .u32 h7] 159))
 have HB2:=am_ (HB.out.alloc HB.out.size (.cells #[.int .u32 h0,.int .u32 h1,.int .u32 h2,.int .u32 h3,.int .u32 h4,.int .u32 h5,.int .u32 h6,.int .u32 h7] 159))
 obtain ⟨gv,hgv⟩:∃ gv,w1.heap.size=gv:=⟨_,rfl⟩
 rw [hgv] at HN ⊢
 have HV:=am_ (show w.heap.size≤gv from by rw [← hgv];exact HB.out.size)
 clear hgv
 generalize w1.alloc (.cells #[.int .u32 h0,.int .u32 h1,.int .u32 h2,.int .u32 h3,.int .u32 h4,.int .u32 h5,.int .u32 h6,.int .u32 h7] 159)=w2 at HGH2 HGK2 HW22 HN HB2 ⊢
 clear HGH1 HGK1 HW2 HB
 go_loopw [22] (fun i W=>∃ k:Nat,k≤64∧i = .int .i64 k∧Aside0 (W.heap[gv]?=some (.cells (arrU (vAt ks (wAt bs 64) [h0,h1,h2,h3,h4,h5,h6,h7] k)) 159 (0,0)))∧Aside0 (Below w.heap.size w W)∧Aside0 (W.heap[gw]?=some (.cells (arrU (wAt bs 64)) 170 (0,0)))) (fun i _=>64 - (intOf i).toNat)
 case atStart => exact ⟨0,by omega,rfl,HN,HB2,HW22⟩
 case round =>
  clear HN HB2 HW22
  obtain ⟨k,hk,rfl,HN,HB,HW⟩:=hrel
  by_cases hlt:k < 64
  ·obtain ⟨v0,v1,v2,v3,v4,v5,v6,v7,hv⟩:∃ v0 v1 v2 v3 v4 v5 v6 v7,vAt ks (wAt bs 64) [h0,h1,h2,h3,h4,h5,h6,h7] k=[v0,v1,v2,v3,v4,v5,v6,v7]:=eight (vAt_eight _ _ _ rfl k)
   have HN2:=HN.out
   rw [hv] at HN2
   have HNN:=am_ HN2
   have q0:=blk_cell HN2 0
   have q1:=blk_cell HN2 1
   have q2:=blk_cell HN2 2
   have q3:=blk_cell HN2 3
   have q4:=blk_cell HN2 4
   have q5:=blk_cell HN2 5
   have q6:=blk_cell HN2 6
   have q7:=blk_cell HN2 7
   simp only [arrU,nums,List.map_cons,List.map_nil,List.getElem?_toArray,List.getElem?_cons_zero,List.getElem?_cons_succ] at q0 q1 q2 q3 q4 q5 q6 q7
   have f0:=blk_frozen HN2 0
   have f1:=blk_frozen HN2 1
   have f2:=blk_frozen HN2 2
   have f3:=blk_frozen HN2 3
   have f4:=blk_frozen HN2 4
   have f5:=blk_frozen HN2 5
   have f6:=blk_frozen HN2 6
   have f7:=blk_frozen HN2 7
   clear HN2
   have hkc:wr.cell? ⟨gk,k,none⟩=some (.int .u32 (ks.getD k 0)):=(blk_cell ((HB.out.block gk (blk_lt HGK.out)).trans HGK.out) k).trans (arrU_get (by rw [HK.out];omega))
   have hwc:wr.cell? ⟨gw,k,none⟩=some (.int .u32 ((wAt bs 64).getD k 0)):=(blk_cell HW.out k).trans (arrU_get (by rw [wAt_length];omega))
   obtain ⟨kc,gkc⟩:∃ a,ks.getD k 0=a:=⟨_,rfl⟩
   obtain ⟨wc,gwc⟩:∃ a,(wAt bs 64).getD k 0=a:=⟨_,rfl⟩
   rw [gkc] at hkc
   rw [gwc] at hwc
   have HV1:=am_ (show vAt ks (wAt bs 64) [h0,h1,h2,h3,h4,h5,h6,h7] (k+1)=turnStep kc wc [v0,v1,v2,v3,v4,v5,v6,v7] from by rw [← hv,← gkc,← gwc];rfl)
   clear hv gkc gwc
   have b22:decide ((k:Int) < 64)=true:=decide_eq_true (by omega)
   have l64:(k:Int) < 64:=by omega
   go_wp2
   go_region
   go_wp2_with (first|(go_at_call 171;(first|(with_reducible refine (bits_RotateLeft32.calls _ _ _ _ (rot6 _)).mono ?_)|(with_reducible refine (bits_RotateLeft32.calls _ _ _ _ (rot11 _)).mono ?_)|(with_reducible refine (bits_RotateLeft32.calls _ _ _ _ (rot25 _)).mono ?_));rintro e w' ⟨rfl,⟨nd,rfl⟩⟩))
   go_region
   go_wp2_with (first|(go_at_call 171;(first|(with_reducible refine (bits_RotateLeft32.calls _ _ _ _ (rot2 _)).mono ?_)|(with_reducible refine (bits_RotateLeft32.calls _ _ _ _ (rot13 _)).mono ?_)|(with_reducible refine (bits_RotateLeft32.calls _ _ _ _ (rot22 _)).mono ?_));rintro e w' ⟨rfl,⟨nd,rfl⟩⟩))
   go_roundw
   case rel =>
    refine ⟨k+1,by omega,by go_num,⟨?_⟩,⟨?_⟩,⟨?_⟩⟩
    ·rw [HV1.out]
     exact eight_set _ _ _ _ _ _ _ _ (blk_drewN HNN.out _)
    ·exact eight_below (pw_below_drewN HB.out _) HV.out _ _ _ _ _ _ _ _
    ·exact eight_far (blk_drewN HW.out _) (blk_ne HW.out HNN.out (by decide)) _ _ _ _ _ _ _ _
   case measure => simp [intOf];omega
  ·obtain rfl:k=64:=by omega
   have b22:decide (((64:Nat):Int) < 64)=false:=by decide
   obtain ⟨wo,rfl⟩:∃ wo:World,wo=wr:=⟨_,rfl⟩
   go_wp2
   generalize hvv:vAt ks (wAt bs 64) [h0,h1,h2,h3,h4,h5,h6,h7] 64=vs at HN
   have hvl:vs.length=8:=by rw [← hvv];exact vAt_eight _ _ _ rfl _
   have HVV:=am_ hvv
   have HVL:=am_ hvl
   clear hvv hvl
   go_loopw [109] (fun i W=>∃ k:Nat,k≤8∧i = .int .i64 k∧Aside0 (W.heap[gh]?=some (.cells (arrU (addAt [h0,h1,h2,h3,h4,h5,h6,h7] vs k)) 159 (0,0)))∧Aside0 (W.heap[gv]?=some (.cells (arrU vs) 159 (0,0)))∧Aside0 (w.grownBy W (some gh))) (fun i _=>8 - (intOf i).toNat)
   case atStart => exact ⟨0,by omega,rfl,⟨(HB.out.block gh (blk_lt HGH.out)).trans HGH.out⟩,HN,⟨grown_of_below HB.out _⟩⟩
   case round =>
    clear hlt hk b22 HN HB HW
    obtain ⟨k,hk,rfl,HH,HN,HB⟩:=hrel
    by_cases hlt:k < 8
    ·have hne:gh ≠ gv:=by have:=blk_lt HGH.out;have:=HV.out;omega
     have HNE:=am_ hne
     have ch:wr.cell? ⟨gh,k,none⟩=some (.int .u32 ((addAt [h0,h1,h2,h3,h4,h5,h6,h7] vs k).getD k 0)):=(blk_cell HH.out k).trans (arrU_get (by rw [addAt_length];exact hlt))
     have cv:wr.cell? ⟨gv,k,none⟩=some (.int .u32 (vs.getD k 0)):=(blk_cell HN.out k).trans (arrU_get (by rw [HVL.out];exact hlt))
     obtain ⟨a,ga⟩:∃ a,(addAt [h0,h1,h2,h3,h4,h5,h6,h7] vs k).getD k 0=a:=⟨_,rfl⟩
     obtain ⟨b,gb⟩:∃ a,vs.getD k 0=a:=⟨_,rfl⟩
     rw [ga] at ch
     rw [gb] at cv
     have G:=am_ (show addAt [h0,h1,h2,h3,h4,h5,h6,h7] vs (k+1)=(addAt [h0,h1,h2,h3,h4,h5,h6,h7] vs k).set k ((a+b) % 4294967296) from by rw [← ga,← gb];rfl)
     have fh:=blk_frozen HH.out k
     have b110:decide ((k:Int) < 8)=true:=decide_eq_true (by omega)
     have l8:(k:Int) < 8:=by omega
     clear ga gb hne
     go_wp2
     go_region
     go_wp2
     go_roundw
     case rel =>
      refine ⟨k+1,by omega,by go_num,⟨?_⟩,⟨?_⟩,⟨?_⟩⟩
      ·rw [G.out,← arrU_set]
       exact blk_set (blk_drew HH.out) k _
      ·exact blk_far (blk_drew HN.out) HNE.out.symm _
      ·exact ⟨HB.out.os,HB.out.tape,HB.out.output,by simpa [World.setCell] using HB.out.size,fun i hi hn=>(Below.heap_setCell _ _ _ _ (fun e=>hn (by rw [e]))).trans (HB.out.block i hi hn)⟩
     case measure => simp [intOf];omega
    ·obtain rfl:k=8:=by omega
     have b110:decide (((8:Nat):Int) < 8)=false:=by decide
     go_wp2
     refine bodyPost_end (results_none rfl _ _ _) rfl ?_
     refine ⟨rfl,HB.out,?_⟩
     unfold turned
     rw [HVV.out]
     exact HH.out
def slices_Clone_byte_byte.f (l0:List Int):Option (List Int):=if l0.length≤140737488355328 then some l0 else none
theorem slices_Clone_byte_byte.info:(Tryz.prog.info? 5).map (fun i=>(i.zero,i.size,i.bytes))=some (some (.int .u8 0),1,1):=by kernel_rfl
set_option maxHeartbeats 1000000 in
theorem slices_Clone_byte_byte.calls (A0:Option Addr) (c0:Nat) (l0:List Int) (r:List Int) (w:World) (hr0:Kd.C (Kd.int .u8) w A0 l0.length l0) (hc0:l0.length≤c0) (h:slices_Clone_byte_byte.f l0=some r) :
  Calls Tryz.prog 122 #[.slice A0 l0.length c0] w fun e w'=>∃ v0_:Value,e = .returned (v0_)∧Kd.R (Kd.int .u8) 5 w' w.heap.size (fun _=>True) v0_ r∧Below w.heap.size w w':=by
 unfold slices_Clone_byte_byte.f at h
 by_cases hl:l0.length≤140737488355328
 ·rw [if_pos hl] at h
  obtain rfl:=Option.some.inj h
  have LM:=am_ hl
  have HR0:=am_ hr0
  have HC0:=am_ hc0
  have hn:=fun W:World=>Lib.run_eql_slice_nil (P:=Tryz.prog) W 27 5 A0 l0.length c0 0 0 Tryz.underlying27
  clear hl h hc0
  cases A0 with
  | none =>
   have h0:l0=[]:=by
    rcases Nat.eq_zero_or_pos l0.length with hz|hz
    ·exact List.eq_nil_of_length_eq_zero hz
    ·obtain ⟨ad,he,_⟩:=hr0.2.2 hz
     cases he
   subst h0
   clear hr0 hn
   have hn2:=fun W:World=>Lib.run_eql_slice_nil (P:=Tryz.prog) W 27 5 none 0 c0 0 0 Tryz.underlying27
   go_enter Tryz.func122,Tryz.ntmps122
   go_wp2
   go_ret
   exact ⟨_,rfl,Kd.R_nil _ _ _ _ _,Below.refl _ _⟩
  | some ad =>
   clear hr0
   go_enter Tryz.func122,Tryz.ntmps122
   go_wp2_with (first|((with_reducible refine gate_dst (N:=5) rfl ?_);refine Kd.R_lit (Kd.int .u8) _ 5 ?hg (N:=5) ?hd (w0:=w) (xs:=([]:List Int)) (inner:=[]) (ok:=fun _=>True) (okp:=fun _=>True) ?hr ?hp (fun _ hk=>hk) trivial (Below.refl _ _) (Nat.le_refl _) (by simp) ?_;(case hd=>rfl);(case hg=>rfl);(case hr=>first|(go_simp;done)|(go_simp;rfl));(case hp=>exact (Reps.none _ _));intro v1 w4 ho5 hb hg_ hnew_;clear hg_ hnew_;have HO:=am_ ho5;have HB:=am_ hb;clear ho5 hb)|((with_reducible refine gate_builtin (b:=.append) (xs:=#[.tmp 5,.tmp 6]) rfl ?_);at_builtin;refine Kd.R_append_rows (Kd.int .u8) (w0:=w) w.heap.size rfl (.tmp 5) (.tmp 6) 27 5 (.int .u8 0) 1 rfl Tryz.underlying27 slices_Clone_byte_byte.info rfl (by decide) (by omega) v1 [] l0 _ _ _ (fun _=>True) (fun _=>False) rfl rfl ?aO ?aR (fun _ _ h=>h) (fun _ h=>h.elim) ?aF ?aB ?aS ?aL ?_;(case aR=>exact Kd.C_below HR0.out HB.out);(case aB=>exact HB.out);(case aF=>exact (fun _ _=>trivial));(case aO=>exact HO.out);(case aS=>exact HB.out.size);(case aL=>have:=LM.out;simp only [List.length_nil];omega);intro v2 w6 ho hb hg hat;have HO2:=am_ ho;have HB2:=am_ hb;clear ho hb hg hat))
   go_ret
   exact ⟨_,rfl,by simpa using HO2.out,HB2.out⟩
 ·rw [if_neg hl] at h
  cases h
mutual
def impl_Padded.l0:Nat->List Int->List Int->Option (List Int)
 | 0,_,_=>none
 | k+1,x0,x3=>if (Int.tmod (wrap64 ((x3.length:Int) + 8)) 64)=0 then (impl_Padded.l1 k x3 (wrap64 (8 * (x0.length:Int))) 7) else (if x3.length < 140737488355328 then (impl_Padded.l0 k x0 (x3 ++ [0])) else (none))
def impl_Padded.l1:Nat->List Int->Int->Int->Option (List Int)
 | 0,_,_,_=>none
 | k+1,x3,x4,x5=>if x5 ≥ 0 then (if 0≤(IntKind.u64.wrap (wrap64 (8 * x5))) then (if x3.length < 140737488355328 then (impl_Padded.l1 k (x3 ++ [(shr .i64 x4 (IntKind.u64.wrap (wrap64 (8 * x5)))) % 256]) x4 (wrap64 (x5 - 1))) else (none)) else (none)) else (some x3)
end
def impl_Padded.f (k:Nat) (l0:List Int):Option (List Int):=(slices_Clone_byte_byte.f l0).bind fun t1=>(if t1.length < 140737488355328 then (impl_Padded.l0 k l0 (t1 ++ [128])) else (none))
theorem impl_Padded.calls (k:Nat) (A0:Option Addr) (c0:Nat) (l0:List Int) (r:List Int) (w:World) (hr0:Kd.C (Kd.int .u8) w A0 l0.length l0) (hc0:l0.length≤c0) (h:impl_Padded.f k l0=some r) :
  Calls Tryz.prog 158 #[.slice A0 l0.length c0] w fun e w'=>∃ v0_:Value,e = .returned (v0_)∧Kd.R (Kd.int .u8) 5 w' w.heap.size (fun _=>True) v0_ r∧Below w.heap.size w w':=by
 have HR0:=am_ hr0
 have HC0:=am_ hc0
 clear hr0 hc0
 have HB:=h0_ w
 have H:((slices_Clone_byte_byte.f l0).bind fun t1=>(if t1.length < 140737488355328 then (impl_Padded.l0 k l0 (t1 ++ [128])) else (none)))=some r:=h
 clear h
 replace H:=bi_ H;obtain ⟨t1,A2,H⟩:=H
 replace H:=ip_ H;obtain ⟨c3,H⟩:=H
 have LMc3:=am_ c3
 clear c3
 obtain ⟨y604,hy4⟩:∃ y_:List Int,y_=(t1 ++ [128]):=⟨_,rfl⟩
 replace H:(impl_Padded.l0 k l0 y604)=some r:=yh_ hy4 H
 have Ny4:=am_ hy4
 clear hy4
 have H':=am_ H
 clear H
 go_enter Tryz.func158,Tryz.ntmps158
 go_wp2_with (first|((with_reducible refine gq_ 122 7 ?_);refine gc_ 7 Tryz.func122 (slices_Clone_byte_byte.calls _ _ l0 t1 _ (cr_ HR0.out) HC0.out A2.out) ?_;rintro e w4 ⟨v2,rfl,ho0,hb⟩;refine ⟨_,rfl,?_⟩;have HO3:=rlo_ ho0 HB;replace HB:=ss_ HB hb;clear hb ho0)|((with_reducible refine gate_builtin (b:=.append) (xs:=#[.tmp 7,.tmp 8]) rfl ?_);at_builtin;refine Kd.R_append (Kd.int .u8) (w0:=w) w.heap.size rfl (.tmp 7) (.tmp 8) 27 5 (.int .u8 0) 1 rfl Tryz.underlying27 info5 rfl (by decide) (by omega) v2 t1 128 [.int .u8 128] (fun _=>True) (fun _=>False) rfl rfl ?aP (fun _ hk=>hk.elim) ?aF ?aO ?aB ?aS ?aL ?_;(case aP=>exact rfl);(case aB=>exact (bw_ HB));(case aF=>exact (fun _ _=>trivial));(case aO=>exact (kr_ HO3.out));(case aS=>exact (sz_ HB));(case aL=>have:=LMc3.out;omega);intro v605 w5 ho hb hg hat;rw [← Ny4.out] at ho;replace HB:=am_ hb;have HO6:=am_ ho;clear HO3;clear ho hb hg hat))
 go_loopg [3] k (fun kq v3 w'=>∃ (x3_1:List Int),Aside0 (impl_Padded.l0 kq l0 x3_1=some r)∧Aside0 (kq≤k)∧Aside0 (Kd.R (Kd.int .u8) 5 w' w.heap.size (fun _=>True) v3 x3_1)∧Aside0 (Below w.heap.size w w'))
 case atStart => exact ⟨(y604),H',⟨Nat.le_refl _⟩,⟨kr_ HO6.out⟩,⟨bw_ HB⟩⟩
 case round =>
  clear H'
  try clear c3
  obtain ⟨x3_1,HA,HK1,HO_3,HB⟩:=hrel
  cases gk with
  | zero=>exact absurd HA.out (by simp [impl_Padded.l0])
  | succ k1 =>
   have H:=HA.out
   clear HA
   simp only [impl_Padded.l0] at H
   replace H:=it_ H;obtain ⟨c6,H⟩|⟨c6,H⟩:=H
   ·have c6b0:((Int.tmod (wrap64 ((x3_1.length:Int) + 8)) 64) == 0)=true:=beq_iff_eq.mpr c6
    have c6b1:((Int.tmod (wrap64 ((x3_1.length:Int) + 8)) 64) != 0)=false:=bne_eq_false_iff_eq.mpr c6
    clear c6
    have H':=am_ H
    clear H
    obtain ⟨Ao7,co7,eo7⟩:=Kd.R_slice HO_3.out
    subst eo7
    go_wp2
    go_loopg [3,5] k1 (fun kq v3 v5 w'=>∃ (x3_2:List Int) (x5_2:Int),v5 = .int .i64 x5_2∧Aside0 (impl_Padded.l1 kq x3_2 (wrap64 (8 * (l0.length:Int))) x5_2=some r)∧Aside0 (kq≤k1)∧Aside0 (Kd.R (Kd.int .u8) 5 w' w.heap.size (fun _=>True) v3 x3_2)∧Aside0 (Below w.heap.size w w'))
    case atStart => exact ⟨(x3_1),(7),e1_,H',⟨Nat.le_refl _⟩,⟨kr_ HO_3.out⟩,⟨bw_ HB⟩⟩
    case round =>
     clear H'
     try clear c1
     try clear p2
     try clear c3
     try clear c6
     try clear c6b0
     try clear c6b1
     obtain ⟨x3_2,x5_2,rfl,HA,HK2,HO_3,HB⟩:=hrel
     cases gk with
     | zero=>exact absurd HA.out (by simp [impl_Padded.l1])
     | succ k2 =>
      have H:=HA.out
      clear HA
      simp only [impl_Padded.l1] at H
      replace H:=it_ H;obtain ⟨c8,H⟩|⟨c8,H⟩:=H
      ·have c8b0:decide (0≤x5_2)=true:=decide_eq_true c8
       clear c8
       generalize hji9:(IntKind.u64.wrap (wrap64 (8 * x5_2)))=ji9 at H
       replace H:=ip_ H;obtain ⟨c10,H⟩:=H
       have c10b0:=eq_true c10
       have c10b1:=decide_eq_true c10
       clear c10
       generalize hji11:(shr .i64 (wrap64 (8 * (l0.length:Int))) (ji9))=ji11 at H
       have hji11_:((wrap64 (8 * (l0.length:Int))) / 2 ^ min (ji9).toNat 64)=ji11:=hji11
       have hji11z:(ji9)≤64->((wrap64 (8 * (l0.length:Int))) / 2 ^ (ji9).toNat)=ji11:=shr_small hji11
       replace H:=ip_ H;obtain ⟨c12,H⟩:=H
       have LMc12:=am_ c12
       clear c12
       obtain ⟨y10,hy10⟩:∃ y_:List Int,y_=(x3_2 ++ [(ji11) % 256]):=⟨_,rfl⟩
       replace H:(impl_Padded.l1 k2 y10 (wrap64 (8 * (l0.length:Int))) (wrap64 (x5_2 - 1)))=some r:=yh_ hy10 H
       have Ny10:=am_ hy10
       clear hy10
       have H':=am_ H
       clear H
       go_wp2_with (first|((with_reducible refine gate_builtin (b:=.append) (xs:=#[.tmp 25,.tmp 32]) rfl ?_);at_builtin;refine Kd.R_append (Kd.int .u8) (w0:=w) w.heap.size rfl (.tmp 25) (.tmp 32) 27 5 (.int .u8 0) 1 rfl Tryz.underlying27 info5 rfl (by decide) (by omega) u3 x3_2 ((ji11) % 256) [.int .u8 ((ji11) % 256)] (fun _=>True) (fun _=>False) rfl rfl ?aP (fun _ hk=>hk.elim) ?aF ?aO ?aB ?aS ?aL ?_;(case aP=>exact rfl);(case aB=>exact (bw_ HB));(case aF=>exact (fun _ _=>trivial));(case aO=>exact (kr_ HO_3.out));(case aS=>exact (sz_ HB));(case aL=>have:=LMc12.out;omega);intro v11 w13 ho hb hg hat;rw [← Ny10.out] at ho;replace HB:=am_ hb;have HO12:=am_ ho;clear HO_3;clear ho hb hg hat))
       go_roundg k2
       case measure => have:=HK1.out;have:=HK2.out;omega
       case rel => exact ⟨(y10),(wrap64 (x5_2 - 1)),e1_,H',⟨by have:=HK1.out;have:=HK2.out;omega⟩,⟨kr_ HO12.out⟩,⟨bw_ HB⟩⟩
      ·have c8b0:decide (0≤x5_2)=false:=decide_eq_false c8
       clear c8
       obtain rfl:=Option.some.inj H
       go_wp2
       go_ret
       exact ⟨_,e2_,kr_ HO_3.out,bw_ HB⟩
   ·have c6b0:((Int.tmod (wrap64 ((x3_1.length:Int) + 8)) 64) == 0)=false:=beq_eq_false_iff_ne.mpr c6
    have c6b1:((Int.tmod (wrap64 ((x3_1.length:Int) + 8)) 64) != 0)=true:=bne_iff_ne.mpr c6
    replace H:=ip_ H;obtain ⟨c14,H⟩:=H
    have LMc14:=am_ c14
    clear c14
    obtain ⟨y607,hy7⟩:∃ y_:List Int,y_=(x3_1 ++ [0]):=⟨_,rfl⟩
    replace H:(impl_Padded.l0 k1 l0 y607)=some r:=yh_ hy7 H
    have Ny7:=am_ hy7
    clear hy7
    have H':=am_ H
    clear H
    obtain ⟨Ao15,co15,eo15⟩:=Kd.R_slice HO_3.out
    subst eo15
    go_wp2_with (first|((with_reducible refine gate_builtin (b:=.append) (xs:=#[.tmp 15,.tmp 16]) rfl ?_);at_builtin;refine Kd.R_append (Kd.int .u8) (w0:=w) w.heap.size rfl (.tmp 15) (.tmp 16) 27 5 (.int .u8 0) 1 rfl Tryz.underlying27 info5 rfl (by decide) (by omega) (.slice Ao15 x3_1.length co15) x3_1 0 [.int .u8 0] (fun _=>True) (fun _=>False) rfl rfl ?aP (fun _ hk=>hk.elim) ?aF ?aO ?aB ?aS ?aL ?_;(case aP=>exact rfl);(case aB=>exact (bw_ HB));(case aF=>exact (fun _ _=>trivial));(case aO=>exact (kr_ HO_3.out));(case aS=>exact (sz_ HB));(case aL=>have:=LMc14.out;omega);intro v8 w16 ho hb hg hat;rw [← Ny7.out] at ho;replace HB:=am_ hb;have HO9:=am_ ho;clear HO_3;clear ho hb hg hat))
    go_roundg k1
    case measure => have:=HK1.out;omega
    case rel => exact ⟨(y607),H',⟨by have:=HK1.out;omega⟩,⟨kr_ HO9.out⟩,⟨bw_ HB⟩⟩
mutual
def spec_Padded.l0:Nat->List Int->List Int->Option (List Int)
 | 0,_,_=>none
 | k+1,x0,x3=>if ((x3.length:Int) % 64)=56 then (spec_Padded.l1 k x3 (wrap64 ((x0.length:Int) * 8)) 56) else (if x3.length < 140737488355328 then (spec_Padded.l0 k x0 (x3 ++ [0])) else (none))
def spec_Padded.l1:Nat->List Int->Int->Int->Option (List Int)
 | 0,_,_,_=>none
 | k+1,x3,x4,x5=>if x5 ≥ 0 then (if 0≤(IntKind.u64.wrap (x5)) then (if x3.length < 140737488355328 then (spec_Padded.l1 k (x3 ++ [(shr .i64 x4 (IntKind.u64.wrap (x5))) % 256]) x4 (wrap64 (x5 - 8))) else (none)) else (none)) else (some x3)
end
def spec_Padded.f (k:Nat) (l0:List Int):Option (List Int):=(some (([]:List Int):List Int)).bind fun y601=>(if y601.length+l0.length < 140737488355328 then ((some (y601 ++ l0:List Int)).bind fun y604=>(if y604.length < 140737488355328 then (spec_Padded.l0 k l0 (y604 ++ [128])) else (none))) else (none))
theorem spec_Padded.calls (k:Nat) (A0:Option Addr) (c0:Nat) (l0:List Int) (r:List Int) (w:World) (hr0:Kd.C (Kd.int .u8) w A0 l0.length l0) (hc0:l0.length≤c0) (h:spec_Padded.f k l0=some r) :
  Calls Tryz.prog 140 #[.slice A0 l0.length c0] w fun e w'=>∃ v0_:Value,e = .returned (v0_)∧Kd.R (Kd.int .u8) 5 w' w.heap.size (fun _=>True) v0_ r∧Below w.heap.size w w':=by
 have HR0:=am_ hr0
 have HC0:=am_ hc0
 clear hr0 hc0
 have HB:=h0_ w
 have H:((some (([]:List Int):List Int)).bind fun y601=>(if y601.length+l0.length < 140737488355328 then ((some (y601 ++ l0:List Int)).bind fun y604=>(if y604.length < 140737488355328 then (spec_Padded.l0 k l0 (y604 ++ [128])) else (none))) else (none)))=some r:=h
 clear h
 obtain ⟨y601,Ny1,H⟩:=sb_ (([]:List Int)) H
 replace H:=ip_ H;obtain ⟨c2,H⟩:=H
 have LMc2:=am_ c2
 clear c2
 obtain ⟨y604,Ny4,H⟩:=sb_ (y601 ++ l0) H
 replace H:=ip_ H;obtain ⟨c3,H⟩:=H
 have LMc3:=am_ c3
 clear c3
 obtain ⟨y607,hy7⟩:∃ y_:List Int,y_=(y604 ++ [128]):=⟨_,rfl⟩
 replace H:(spec_Padded.l0 k l0 y607)=some r:=yh_ hy7 H
 have Ny7:=am_ hy7
 clear hy7
 have H':=am_ H
 clear H
 go_enter Tryz.func140,Tryz.ntmps140
 go_wp2_with (first|((with_reducible refine gd_ 6 ?_);refine rl_ (Kd.int .u8) 5 6 ([]:List Int) [] ?_;intro v2 w4 ho5 hb hg_ hnew_;clear hg_ hnew_;(first|rw [← Ny1.out] at ho5|(simp only [Int.reduceToNat] at ho5;rw [← Ny1.out] at ho5));have HO3:=rlo_ ho5 HB;replace HB:=ss_ HB hb;clear hb ho5)|((with_reducible refine gate_builtin (b:=.append) (xs:=#[.tmp 6,.tmp 7]) rfl ?_);at_builtin;refine Kd.R_append_rows (Kd.int .u8) (w0:=w) w.heap.size rfl (.tmp 6) (.tmp 7) 27 5 (.int .u8 0) 1 rfl Tryz.underlying27 info5 rfl (by decide) (by omega) v2 y601 l0 _ _ _ (fun _=>True) (fun _=>False) rfl rfl ?aO ?aR (fun _ _ h=>h) (fun _ h=>h.elim) ?aF ?aB ?aS ?aL ?_;(case aR=>exact cb_ HR0 HB);(case aB=>exact (bw_ HB));(case aF=>exact (fun _ _=>trivial));(case aO=>exact (kr_ HO3.out));(case aS=>exact (sz_ HB));(case aL=>have:=LMc2.out;omega);intro v605 w6 ho hb hg hat;rw [← Ny4.out] at ho;replace HB:=am_ hb;have HO6:=am_ ho;clear HO3;clear ho hb hg hat)|((with_reducible refine gate_builtin (b:=.append) (xs:=#[.tmp 8,.tmp 9]) rfl ?_);at_builtin;refine Kd.R_append (Kd.int .u8) (w0:=w) w.heap.size rfl (.tmp 8) (.tmp 9) 27 5 (.int .u8 0) 1 rfl Tryz.underlying27 info5 rfl (by decide) (by omega) v605 y604 128 [.int .u8 128] (fun _=>True) (fun _=>False) rfl rfl ?aP (fun _ hk=>hk.elim) ?aF ?aO ?aB ?aS ?aL ?_;(case aP=>exact rfl);(case aB=>exact (bw_ HB));(case aF=>exact (fun _ _=>trivial));(case aO=>exact (kr_ HO6.out));(case aS=>exact (sz_ HB));(case aL=>have:=LMc3.out;omega);intro v8 w7 ho hb hg hat;rw [← Ny7.out] at ho;replace HB:=am_ hb;have HO9:=am_ ho;clear HO6;clear ho hb hg hat))
 go_loopg [3] k (fun kq v3 w'=>∃ (x3_1:List Int),Aside0 (spec_Padded.l0 kq l0 x3_1=some r)∧Aside0 (kq≤k)∧Aside0 (Kd.R (Kd.int .u8) 5 w' w.heap.size (fun _=>True) v3 x3_1)∧Aside0 (Below w.heap.size w w'))
 case atStart => exact ⟨(y607),H',⟨Nat.le_refl _⟩,⟨kr_ HO9.out⟩,⟨bw_ HB⟩⟩
 case round =>
  clear H'
  try clear c2
  try clear c3
  obtain ⟨x3_1,HA,HK1,HO_3,HB⟩:=hrel
  cases gk with
  | zero=>exact absurd HA.out (by simp [spec_Padded.l0])
  | succ k1 =>
   have H:=HA.out
   clear HA
   simp only [spec_Padded.l0] at H
   replace H:=it_ H;obtain ⟨c8,H⟩|⟨c8,H⟩:=H
   ·have c8b0:(((x3_1.length:Int) % 64) == 56)=true:=beq_iff_eq.mpr c8
    have c8b1:(((x3_1.length:Int) % 64) != 56)=false:=bne_eq_false_iff_eq.mpr c8
    clear c8
    have H':=am_ H
    clear H
    obtain ⟨Ao9,co9,eo9⟩:=Kd.R_slice HO_3.out
    subst eo9
    go_wp2
    go_loopg [3,5] k1 (fun kq v3 v5 w'=>∃ (x3_2:List Int) (x5_2:Int),v5 = .int .i64 x5_2∧Aside0 (spec_Padded.l1 kq x3_2 (wrap64 ((l0.length:Int) * 8)) x5_2=some r)∧Aside0 (kq≤k1)∧Aside0 (Kd.R (Kd.int .u8) 5 w' w.heap.size (fun _=>True) v3 x3_2)∧Aside0 (Below w.heap.size w w'))
    case atStart => exact ⟨(x3_1),(56),e1_,H',⟨Nat.le_refl _⟩,⟨kr_ HO_3.out⟩,⟨bw_ HB⟩⟩
    case round =>
     clear H'
     try clear c1
     try clear c2
     try clear p2
     try clear c3
     try clear c8
     try clear c8b0
     try clear c8b1
     obtain ⟨x3_2,x5_2,rfl,HA,HK2,HO_3,HB⟩:=hrel
     cases gk with
     | zero=>exact absurd HA.out (by simp [spec_Padded.l1])
     | succ k2 =>
      have H:=HA.out
      clear HA
      simp only [spec_Padded.l1] at H
      replace H:=it_ H;obtain ⟨c10,H⟩|⟨c10,H⟩:=H
      ·have c10b0:decide (0≤x5_2)=true:=decide_eq_true c10
       clear c10
       generalize hji11:(IntKind.u64.wrap (x5_2))=ji11 at H
       replace H:=ip_ H;obtain ⟨c12,H⟩:=H
       have c12b0:=eq_true c12
       have c12b1:=decide_eq_true c12
       clear c12
       generalize hji13:(shr .i64 (wrap64 ((l0.length:Int) * 8)) (ji11))=ji13 at H
       have hji13_:((wrap64 ((l0.length:Int) * 8)) / 2 ^ min (ji11).toNat 64)=ji13:=hji13
       have hji13z:(ji11)≤64->((wrap64 ((l0.length:Int) * 8)) / 2 ^ (ji11).toNat)=ji13:=shr_small hji13
       replace H:=ip_ H;obtain ⟨c14,H⟩:=H
       have LMc14:=am_ c14
       clear c14
       obtain ⟨y13,hy13⟩:∃ y_:List Int,y_=(x3_2 ++ [(ji13) % 256]):=⟨_,rfl⟩
       replace H:(spec_Padded.l1 k2 y13 (wrap64 ((l0.length:Int) * 8)) (wrap64 (x5_2 - 8)))=some r:=yh_ hy13 H
       have Ny13:=am_ hy13
       clear hy13
       have H':=am_ H
       clear H
       go_wp2_with (first|((with_reducible refine gate_builtin (b:=.append) (xs:=#[.tmp 25,.tmp 31]) rfl ?_);at_builtin;refine Kd.R_append (Kd.int .u8) (w0:=w) w.heap.size rfl (.tmp 25) (.tmp 31) 27 5 (.int .u8 0) 1 rfl Tryz.underlying27 info5 rfl (by decide) (by omega) u3 x3_2 ((ji13) % 256) [.int .u8 ((ji13) % 256)] (fun _=>True) (fun _=>False) rfl rfl ?aP (fun _ hk=>hk.elim) ?aF ?aO ?aB ?aS ?aL ?_;(case aP=>exact rfl);(case aB=>exact (bw_ HB));(case aF=>exact (fun _ _=>trivial));(case aO=>exact (kr_ HO_3.out));(case aS=>exact (sz_ HB));(case aL=>have:=LMc14.out;omega);intro v14 w15 ho hb hg hat;rw [← Ny13.out] at ho;replace HB:=am_ hb;have HO15:=am_ ho;clear HO_3;clear ho hb hg hat))
       go_roundg k2
       case measure => have:=HK1.out;have:=HK2.out;omega
       case rel => exact ⟨(y13),(wrap64 (x5_2 - 8)),e1_,H',⟨by have:=HK1.out;have:=HK2.out;omega⟩,⟨kr_ HO15.out⟩,⟨bw_ HB⟩⟩
      ·have c10b0:decide (0≤x5_2)=false:=decide_eq_false c10
       clear c10
       obtain rfl:=Option.some.inj H
       go_wp2
       go_ret
       exact ⟨_,e2_,kr_ HO_3.out,bw_ HB⟩
   ·have c8b0:(((x3_1.length:Int) % 64) == 56)=false:=beq_eq_false_iff_ne.mpr c8
    have c8b1:(((x3_1.length:Int) % 64) != 56)=true:=bne_iff_ne.mpr c8
    replace H:=ip_ H;obtain ⟨c16,H⟩:=H
    have LMc16:=am_ c16
    clear c16
    obtain ⟨y10,hy10⟩:∃ y_:List Int,y_=(x3_1 ++ [0]):=⟨_,rfl⟩
    replace H:(spec_Padded.l0 k1 l0 y10)=some r:=yh_ hy10 H
    have Ny10:=am_ hy10
    clear hy10
    have H':=am_ H
    clear H
    obtain ⟨Ao17,co17,eo17⟩:=Kd.R_slice HO_3.out
    subst eo17
    go_wp2_with (first|((with_reducible refine gate_builtin (b:=.append) (xs:=#[.tmp 15,.tmp 16]) rfl ?_);at_builtin;refine Kd.R_append (Kd.int .u8) (w0:=w) w.heap.size rfl (.tmp 15) (.tmp 16) 27 5 (.int .u8 0) 1 rfl Tryz.underlying27 info5 rfl (by decide) (by omega) (.slice Ao17 x3_1.length co17) x3_1 0 [.int .u8 0] (fun _=>True) (fun _=>False) rfl rfl ?aP (fun _ hk=>hk.elim) ?aF ?aO ?aB ?aS ?aL ?_;(case aP=>exact rfl);(case aB=>exact (bw_ HB));(case aF=>exact (fun _ _=>trivial));(case aO=>exact (kr_ HO_3.out));(case aS=>exact (sz_ HB));(case aL=>have:=LMc16.out;omega);intro v11 w18 ho hb hg hat;rw [← Ny10.out] at ho;replace HB:=am_ hb;have HO12:=am_ ho;clear HO_3;clear ho hb hg hat))
    go_roundg k1
    case measure => have:=HK1.out;omega
    case rel => exact ⟨(y10),H',⟨by have:=HK1.out;omega⟩,⟨kr_ HO12.out⟩,⟨bw_ HB⟩⟩
def spec_l2K.f  : Option (List Int):=some (([1116352408,1899447441,3049323471,3921009573,961987163,1508970993,2453635748,2870763221,3624381080,310598401,607225278,1426881987,1925078388,2162078206,2614888103,3248222580,3835390401,4022224774,264347078,604807628,770255983,1249150122,1555081692,1996064986,2554220882,2821834349,2952996808,3210313671,3336571891,3584528711,113926993,338241895,666307205,773529912,1294757372,1396182291,1695183700,1986661051,2177026350,2456956037,2730485921,2820302411,3259730800,3345764771,3516065817,3600352804,4094571909,275423344,430227734,506948616,659060556,883997877,958139571,1322822218,1537002063,1747873779,1955562222,2024104815,2227730452,2361852424,2428436474,2756734187,3204031479,3329325298]:List Int))
theorem spec_l2K.calls  (r:List Int) (w:World) (h:spec_l2K.f  = some r) :
  Calls Tryz.prog 141 #[] w fun e w'=>∃ v0_:Value,e = .returned (v0_)∧Kd.R (Kd.int .i64) 3 w' w.heap.size (fun _=>True) v0_ r∧Below w.heap.size w w':=by
 have HB:=h0_ w
 have H:(some (([1116352408,1899447441,3049323471,3921009573,961987163,1508970993,2453635748,2870763221,3624381080,310598401,607225278,1426881987,1925078388,2162078206,2614888103,3248222580,3835390401,4022224774,264347078,604807628,770255983,1249150122,1555081692,1996064986,2554220882,2821834349,2952996808,3210313671,3336571891,3584528711,113926993,338241895,666307205,773529912,1294757372,1396182291,1695183700,1986661051,2177026350,2456956037,2730485921,2820302411,3259730800,3345764771,3516065817,3600352804,4094571909,275423344,430227734,506948616,659060556,883997877,958139571,1322822218,1537002063,1747873779,1955562222,2024104815,2227730452,2361852424,2428436474,2756734187,3204031479,3329325298]:List Int)))=some r:=h
 clear h
 obtain ⟨y601,hy1⟩:∃ y_:List Int,y_=(([1116352408,1899447441,3049323471,3921009573,961987163,1508970993,2453635748,2870763221,3624381080,310598401,607225278,1426881987,1925078388,2162078206,2614888103,3248222580,3835390401,4022224774,264347078,604807628,770255983,1249150122,1555081692,1996064986,2554220882,2821834349,2952996808,3210313671,3336571891,3584528711,113926993,338241895,666307205,773529912,1294757372,1396182291,1695183700,1986661051,2177026350,2456956037,2730485921,2820302411,3259730800,3345764771,3516065817,3600352804,4094571909,275423344,430227734,506948616,659060556,883997877,958139571,1322822218,1537002063,1747873779,1955562222,2024104815,2227730452,2361852424,2428436474,2756734187,3204031479,3329325298]:List Int)):=⟨_,rfl⟩
 replace H:(some y601)=some r:=yh_ hy1 H
 have Ny1:=am_ hy1
 clear hy1
 obtain rfl:=Option.some.inj H
 go_enter Tryz.func141,Tryz.ntmps141
 go_wp2_with (first|((with_reducible refine gd_ 1 ?_);refine rl_ (Kd.int .i64) 3 1 ([1116352408,1899447441,3049323471,3921009573,961987163,1508970993,2453635748,2870763221,3624381080,310598401,607225278,1426881987,1925078388,2162078206,2614888103,3248222580,3835390401,4022224774,264347078,604807628,770255983,1249150122,1555081692,1996064986,2554220882,2821834349,2952996808,3210313671,3336571891,3584528711,113926993,338241895,666307205,773529912,1294757372,1396182291,1695183700,1986661051,2177026350,2456956037,2730485921,2820302411,3259730800,3345764771,3516065817,3600352804,4094571909,275423344,430227734,506948616,659060556,883997877,958139571,1322822218,1537002063,1747873779,1955562222,2024104815,2227730452,2361852424,2428436474,2756734187,3204031479,3329325298]:List Int) [.int .i64 1116352408,.int .i64 1899447441,.int .i64 3049323471,.int .i64 3921009573,.int .i64 961987163,.int .i64 1508970993,.int .i64 2453635748,.int .i64 2870763221,.int .i64 3624381080,.int .i64 310598401,.int .i64 607225278,.int .i64 1426881987,.int .i64 1925078388,.int .i64 2162078206,.int .i64 2614888103,.int .i64 3248222580,.int .i64 3835390401,.int .i64 4022224774,.int .i64 264347078,.int .i64 604807628,.int .i64 770255983,.int .i64 1249150122,.int .i64 1555081692,.int .i64 1996064986,.int .i64 2554220882,.int .i64 2821834349,.int .i64 2952996808,.int .i64 3210313671,.int .i64 3336571891,.int .i64 3584528711,.int .i64 113926993,.int .i64 338241895,.int .i64 666307205,.int .i64 773529912,.int .i64 1294757372,.int .i64 1396182291,.int .i64 1695183700,.int .i64 1986661051,.int .i64 2177026350,.int .i64 2456956037,.int .i64 2730485921,.int .i64 2820302411,.int .i64 3259730800,.int .i64 3345764771,.int .i64 3516065817,.int .i64 3600352804,.int .i64 4094571909,.int .i64 275423344,.int .i64 430227734,.int .i64 506948616,.int .i64 659060556,.int .i64 883997877,.int .i64 958139571,.int .i64 1322822218,.int .i64 1537002063,.int .i64 1747873779,.int .i64 1955562222,.int .i64 2024104815,.int .i64 2227730452,.int .i64 2361852424,.int .i64 2428436474,.int .i64 2756734187,.int .i64 3204031479,.int .i64 3329325298] ?_;intro v2 w1 ho2 hb hg_ hnew_;clear hg_ hnew_;(first|rw [← Ny1.out] at ho2|(simp only [Int.reduceToNat] at ho2;rw [← Ny1.out] at ho2));have HO3:=rlo_ ho2 HB;replace HB:=ss_ HB hb;clear hb ho2))
 go_ret
 exact ⟨_,e2_,kr_ HO3.out,bw_ HB⟩
def spec_l2Turn.f (a0:Int) (a1:Int):Option (Int):=if 0≤(IntKind.u64.wrap (a1)) then (if 0≤(IntKind.u64.wrap (wrap64 (32 - a1))) then (some (Go.bits .and .i64 (Go.bits .or .i64 (shr .i64 a0 (IntKind.u64.wrap (a1))) (shl .i64 a0 (IntKind.u64.wrap (wrap64 (32 - a1))))) 4294967295)) else (none)) else (none)
theorem spec_l2Turn.calls (a0:Int) (a1:Int) (r:Int) (w:World) (h:spec_l2Turn.f a0 a1=some r) :
  Calls Tryz.prog 164 #[.int .i64 a0,.int .i64 a1] w fun e w'=>e = .returned (.int .i64 r)∧Drawn0 w w':=by
 have H:(if 0≤(IntKind.u64.wrap (a1)) then (if 0≤(IntKind.u64.wrap (wrap64 (32 - a1))) then (some (Go.bits .and .i64 (Go.bits .or .i64 (shr .i64 a0 (IntKind.u64.wrap (a1))) (shl .i64 a0 (IntKind.u64.wrap (wrap64 (32 - a1))))) 4294967295)) else (none)) else (none))=some r:=h
 clear h
 generalize hji3:(IntKind.u64.wrap (a1))=ji3 at H
 replace H:=ip_ H;obtain ⟨c4,H⟩:=H
 have c4b0:=eq_true c4
 have c4b1:=decide_eq_true c4
 clear c4
 generalize hji5:(shr .i64 a0 (ji3))=ji5 at H
 have hji5_:(a0 / 2 ^ min (ji3).toNat 64)=ji5:=hji5
 have hji5z:(ji3)≤64->(a0 / 2 ^ (ji3).toNat)=ji5:=shr_small hji5
 generalize hji6:(IntKind.u64.wrap (wrap64 (32 - a1)))=ji6 at H
 replace H:=ip_ H;obtain ⟨c7,H⟩:=H
 have c7b0:=eq_true c7
 have c7b1:=decide_eq_true c7
 clear c7
 generalize hji8:(shl .i64 a0 (ji6))=ji8 at H
 have hji8_:(IntKind.i64.wrap (a0 * 2 ^ min (ji6).toNat 64))=ji8:=hji8
 have hji8z:(ji6)≤64->(IntKind.i64.wrap (a0 * 2 ^ (ji6).toNat))=ji8:=shl_small hji8
 have hji8y:(wrap64 (a0 * 2 ^ min (ji6).toNat 64))=ji8:=(i64_w _).symm.trans hji8_
 have hji8x:(ji6)≤64->(wrap64 (a0 * 2 ^ (ji6).toNat))=ji8:=fun h_=>(i64_w _).symm.trans (hji8z h_)
 obtain rfl:=Option.some.inj H
 go_enter Tryz.func164,Tryz.ntmps164
 go_wp2
 go_ret
 exact ⟨by first|rfl|(simp;done)|(simp only [← hji3,← hji5,← hji6,← hji8] <;> (first|rfl|simp))|(simp [*];done),dw_⟩
mutual
def spec_l2Words.l0:Nat->List Int->List Int->Int->Option (List Int)
 | 0,_,_,_=>none
 | k+1,x0,x3,x4=>if x4 < 16 then (if 0≤(wrap64 (4 * x4)) then (if (wrap64 (4 * x4)) < (x0.length:Int) then (if 0≤(wrap64 ((wrap64 (4 * x4)) + 1)) then (if (wrap64 ((wrap64 (4 * x4)) + 1)) < (x0.length:Int) then (if 0≤(wrap64 ((wrap64 (4 * x4)) + 2)) then (if (wrap64 ((wrap64 (4 * x4)) + 2)) < (x0.length:Int) then (if 0≤(wrap64 ((wrap64 (4 * x4)) + 3)) then (if (wrap64 ((wrap64 (4 * x4)) + 3)) < (x0.length:Int) then (if x3.length < 17592186044416 then (spec_l2Words.l0 k x0 (x3 ++ [Go.bits .or .i64 (Go.bits .or .i64 (Go.bits .or .i64 (wrap64 ((wrap64 (rd x0 (wrap64 (4 * x4)))) * 16777216)) (wrap64 ((wrap64 (rd x0 (wrap64 ((wrap64 (4 * x4)) + 1)))) * 65536))) (wrap64 ((wrap64 (rd x0 (wrap64 ((wrap64 (4 * x4)) + 2)))) * 256))) (wrap64 (rd x0 (wrap64 ((wrap64 (4 * x4)) + 3))))]) (wrap64 (x4+1))) else (none)) else (none)) else (none)) else (none)) else (none)) else (none)) else (none)) else (none)) else (none)) else (spec_l2Words.l1 k x3 16)
def spec_l2Words.l1:Nat->List Int->Int->Option (List Int)
 | 0,_,_=>none
 | k+1,x3,x5=>if x5 < 64 then (if 0≤(wrap64 (x5 - 15)) then (if (wrap64 (x5 - 15)) < (x3.length:Int) then (if 0≤(wrap64 (x5 - 2)) then (if (wrap64 (x5 - 2)) < (x3.length:Int) then ((spec_l2Turn.f (rd x3 (wrap64 (x5 - 15))) 7).bind fun t13=>((spec_l2Turn.f (rd x3 (wrap64 (x5 - 15))) 18).bind fun t14=>((spec_l2Turn.f (rd x3 (wrap64 (x5 - 2))) 17).bind fun t15=>((spec_l2Turn.f (rd x3 (wrap64 (x5 - 2))) 19).bind fun t16=>(if 0≤(wrap64 (x5 - 16)) then (if (wrap64 (x5 - 16)) < (x3.length:Int) then (if 0≤(wrap64 (x5 - 7)) then (if (wrap64 (x5 - 7)) < (x3.length:Int) then (if x3.length < 17592186044416 then (spec_l2Words.l1 k (x3 ++ [Go.bits .and .i64 (wrap64 ((wrap64 ((wrap64 ((rd x3 (wrap64 (x5 - 16))) + (Go.bits .xor .i64 (Go.bits .xor .i64 t13 t14) ((rd x3 (wrap64 (x5 - 15))) / 8)))) + (rd x3 (wrap64 (x5 - 7))))) + (Go.bits .xor .i64 (Go.bits .xor .i64 t15 t16) ((rd x3 (wrap64 (x5 - 2))) / 1024)))) 4294967295]) (wrap64 (x5+1))) else (none)) else (none)) else (none)) else (none)) else (none)))))) else (none)) else (none)) else (none)) else (none)) else (some x3)
end
def spec_l2Words.f (k:Nat) (l0:List Int):Option (List Int):=spec_l2Words.l0 k l0 (([]:List Int)) 0
def spec_l2Words.T5:Bool × List (List Nat × List Nat):=(true,[([],[]),([],[]),([],[]),([2],[2]),([1,3],[1,3]),([4],[4]),([5],[5]),([6],[6]),([],[]),([],[]),([9],[9]),([10],[10]),([8,11],[8,11]),([12],[12]),([13],[13]),([14],[14]),([7,15],[7,15]),([],[]),([],[]),([18],[18]),([19],[19]),([17,20],[17,20]),([21],[21]),([22],[22]),([23],[23]),([16,24],[16,24]),([],[]),([],[]),([27],[27]),([28],[28]),([26,29],[26,29]),([30],[30]),([31],[31]),([25,32],[25,32]),([33],[33]),([0,34],[0,34]),([35,35,0,1,2,3,4,5,6,7,8,9,10,11,12,13,14,15,16,17,18,19,20,21,22,23,24,25,26,27,28,29,30,31,32,33,34,35],[0,35])])
def spec_l2Words.B5:List Nat:=[0,0,0,4,14,30,62,126,0,0,512,1536,3840,7936,16128,32512,65534,0,0,262144,786432,1966080,4063232,8257536,16646144,33554430,0,0,134217728,402653184,1006632960,2080374784,4227858432,8589934590,17179869182,34359738367,68719476735]
theorem spec_l2Words.tab5:rtab .any (opsOf Tryz.f163 5)=spec_l2Words.T5:=by kernel_rfl
theorem spec_l2Words.bits5:waitsOk spec_l2Words.T5.2 spec_l2Words.B5=true:=by kernel_rfl
def spec_l2Words.T13:Bool × List (List Nat × List Nat):=(true,[([],[]),([],[]),([],[]),([2],[2]),([1,3],[1,3]),([4],[4]),([],[]),([5,6],[5,6]),([],[]),([],[]),([9],[9]),([8,10],[8,10]),([11],[11]),([7,12],[7,12]),([],[]),([13,14],[13,14]),([15],[15]),([16],[16]),([0,17],[0,17]),([18,18,0,1,2,3,4,5,6,7,8,9,10,11,12,13,14,15,16,17,18],[0,1,8,18])])
def spec_l2Words.B13:List Nat:=[0,0,0,4,14,30,0,126,0,0,512,1792,3840,8190,0,32766,65534,131070,262143,524287]
theorem spec_l2Words.tab13:rtab .any (opsOf Tryz.f163 13)=spec_l2Words.T13:=by kernel_rfl
theorem spec_l2Words.bits13:waitsOk spec_l2Words.T13.2 spec_l2Words.B13=true:=by kernel_rfl
theorem spec_l2Words.calls (k:Nat) (A0:Option Addr) (c0:Nat) (l0:List Int) (r:List Int) (w:World) (hr0:Kd.C (Kd.int .u8) w A0 l0.length l0) (hc0:l0.length≤c0) (h:spec_l2Words.f k l0=some r) :
  Calls Tryz.prog 163 #[.slice A0 l0.length c0] w fun e w'=>∃ v0_:Value,e = .returned (v0_)∧Kd.R (Kd.int .i64) 3 w' w.heap.size (fun _=>True) v0_ r∧Below w.heap.size w w':=by
 have HR0:=am_ hr0
 have HC0:=am_ hc0
 clear hr0 hc0
 have HB:=h0_ w
 have H:(spec_l2Words.l0 k l0 (([]:List Int)) 0)=some r:=h
 clear h
 obtain ⟨y601,hy1⟩:∃ y_:List Int,y_=(([]:List Int)):=⟨_,rfl⟩
 replace H:(spec_l2Words.l0 k l0 y601 0)=some r:=yh_ hy1 H
 have Ny1:=am_ hy1
 clear hy1
 have H':=am_ H
 clear H
 go_enter Tryz.func163,Tryz.ntmps163
 go_wp2_with (first|((with_reducible refine gd_ 10 ?_);refine rl_ (Kd.int .i64) 3 10 ([]:List Int) [] ?_;intro v2 w2 ho3 hb hg_ hnew_;clear hg_ hnew_;(first|rw [← Ny1.out] at ho3|(simp only [Int.reduceToNat] at ho3;rw [← Ny1.out] at ho3));have HO3:=rlo_ ho3 HB;replace HB:=ss_ HB hb;clear hb ho3))
 go_loopg [3,4] k (fun kq v3 v4 w'=>∃ (x3_1:List Int) (x4_1:Int),v4 = .int .i64 x4_1∧Aside0 (spec_l2Words.l0 kq l0 x3_1 x4_1=some r)∧Aside0 (kq≤k)∧Aside0 (Kd.R (Kd.int .i64) 3 w' w.heap.size (fun _=>True) v3 x3_1)∧Aside0 (Below w.heap.size w w'))
 case atStart => exact ⟨(y601),(0),e1_,H',⟨Nat.le_refl _⟩,⟨kr_ HO3.out⟩,⟨bw_ HB⟩⟩
 case round =>
  clear H'
  obtain ⟨x3_1,x4_1,rfl,HA,HK1,HO_3,HB⟩:=hrel
  cases gk with
  | zero=>exact absurd HA.out (by simp [spec_l2Words.l0])
  | succ k1 =>
   have H:=HA.out
   clear HA
   simp only [spec_l2Words.l0] at H
   replace H:=itd_ H;obtain ⟨c4b0,H⟩|⟨c4b0,H⟩:=H
   ·generalize hji5:(wrap64 (4 * x4_1))=ji5 at H
    have hji5w:(IntKind.i64.wrap (4 * x4_1))=ji5:=(i64_w _).trans hji5
    replace H:=ipd_ H;obtain ⟨c6b0,H⟩:=H
    replace H:=ipd_ H;obtain ⟨c7b0,H⟩:=H
    generalize hji8:(wrap64 ((ji5) + 1))=ji8 at H
    have hji8w:(IntKind.i64.wrap ((ji5) + 1))=ji8:=(i64_w _).trans hji8
    replace H:=ipd_ H;obtain ⟨c9b0,H⟩:=H
    replace H:=ipd_ H;obtain ⟨c10b0,H⟩:=H
    generalize hji11:(wrap64 ((ji5) + 2))=ji11 at H
    have hji11w:(IntKind.i64.wrap ((ji5) + 2))=ji11:=(i64_w _).trans hji11
    replace H:=ipd_ H;obtain ⟨c12b0,H⟩:=H
    replace H:=ipd_ H;obtain ⟨c13b0,H⟩:=H
    generalize hji14:(wrap64 ((ji5) + 3))=ji14 at H
    have hji14w:(IntKind.i64.wrap ((ji5) + 3))=ji14:=(i64_w _).trans hji14
    replace H:=ipd_ H;obtain ⟨c15b0,H⟩:=H
    replace H:=ipd_ H;obtain ⟨c16b0,H⟩:=H
    replace H:=ip_ H;obtain ⟨c17,H⟩:=H
    have LMc17:=am_ c17
    clear c17
    obtain ⟨y8,hy8⟩:∃ y_:List Int,y_=(x3_1 ++ [Go.bits .or .i64 (Go.bits .or .i64 (Go.bits .or .i64 (wrap64 ((wrap64 (rd l0 (ji5))) * 16777216)) (wrap64 ((wrap64 (rd l0 (ji8))) * 65536))) (wrap64 ((wrap64 (rd l0 (ji11))) * 256))) (wrap64 (rd l0 (ji14)))]):=⟨_,rfl⟩
    replace H:(spec_l2Words.l0 k1 l0 y8 (wrap64 (x4_1+1)))=some r:=yh_ hy8 H
    have Ny8:=am_ hy8
    clear hy8
    have H':=am_ H
    clear H
    try go_wp2
    replace HO_3:=am_ (Kd.R_drew HO_3.out)
    replace HB:=hd_ HB
    have p604:0≤((ji5):Int):=od_
    have q4:(ji5) < (l0.length:Int):=od_
    obtain ⟨ad4,e4,hx4_0⟩:=Kd.at_int HR0.out (ji5) p604 q4
    have hw4_0:=hx4_0
    cases e4
    replace hx4_0:=cw_ HB hx4_0
    replace p604:=eq_true p604
    replace q4:=eq_true q4
    have p605:0≤((ji8):Int):=od_
    have q5:(ji8) < (l0.length:Int):=od_
    obtain ⟨ad5,e5,hx5_0⟩:=Kd.at_int HR0.out (ji8) p605 q5
    have hw5_0:=hx5_0
    obtain rfl:ad4=ad5:=(by injection e5)
    replace hx5_0:=cw_ HB hx5_0
    replace p605:=eq_true p605
    replace q5:=eq_true q5
    have p606:0≤((ji11):Int):=od_
    have q6:(ji11) < (l0.length:Int):=od_
    obtain ⟨ad6,e6,hx6_0⟩:=Kd.at_int HR0.out (ji11) p606 q6
    have hw6_0:=hx6_0
    obtain rfl:ad4=ad6:=(by injection e6)
    replace hx6_0:=cw_ HB hx6_0
    replace p606:=eq_true p606
    replace q6:=eq_true q6
    have p607:0≤((ji14):Int):=od_
    have q7:(ji14) < (l0.length:Int):=od_
    obtain ⟨ad7,e7,hx7_0⟩:=Kd.at_int HR0.out (ji14) p607 q7
    have hw7_0:=hx7_0
    obtain rfl:ad4=ad7:=(by injection e7)
    replace hx7_0:=cw_ HB hx7_0
    replace p607:=eq_true p607
    replace q7:=eq_true q7
    refine sw_ 37 (fun w'=>w'.cell? (ad4.add ((ji5)).toNat)=some (.int .u8 (rd l0 (ji5)))∧w'.cell? (ad4.add ((ji8)).toNat)=some (.int .u8 (rd l0 (ji8)))∧w'.cell? (ad4.add ((ji11)).toNat)=some (.int .u8 (rd l0 (ji11)))∧w'.cell? (ad4.add ((ji14)).toNat)=some (.int .u8 (rd l0 (ji14)))) [] spec_l2Words.tab5 spec_l2Words.bits5 ⟨(cw_ HB hw4_0),(cw_ HB hw5_0),(cw_ HB hw6_0),(cw_ HB hw7_0)⟩ (fun hHeld HT_ HW_=>?_)
    generalize wr.drew=w18 at HO_3 HB hx4_0 hx5_0 hx6_0 hx7_0 hHeld ⊢
    refine pt_ 0 15 1 ?_
    refine pt_ 1 16 3 ?_
    refine pt_ 2 17 7 ?_
    refine pt_ 3 18 15 ?_
    refine pt_ 4 19 31 ?_
    refine pt_ 8 23 287 ?_
    refine pt_ 9 24 799 ?_
    refine pt_ 10 25 1823 ?_
    refine pt_ 11 26 3871 ?_
    refine pt_ 12 27 7967 ?_
    refine pt_ 17 32 139039 ?_
    refine pt_ 18 33 401183 ?_
    refine pt_ 19 34 925471 ?_
    refine pt_ 20 35 1974047 ?_
    refine pt_ 21 36 4071199 ?_
    refine pt_ 26 41 71180063 ?_
    refine pt_ 27 42 205397791 ?_
    refine pt_ 28 43 473833247 ?_
    refine pt_ 29 44 1010704159 ?_
    refine pt_ 30 45 2084445983 ?_
    refine tt_ 5 20 2084446015 ?_
    refine pt_ 6 21 2084446079 ?_
    refine pt_ 7 22 2084446207 ?_
    refine tt_ 13 28 2084454399 ?_
    refine pt_ 14 29 2084470783 ?_
    refine pt_ 15 30 2084503551 ?_
    refine pt_ 16 31 2084569087 ?_
    refine tt_ 22 37 2088763391 ?_
    refine pt_ 23 38 2097151999 ?_
    refine pt_ 24 39 2113929215 ?_
    refine pt_ 25 40 2147483647 ?_
    refine tt_ 31 46 4294967295 ?_
    refine pt_ 32 47 8589934591 ?_
    refine pt_ 33 48 17179869183 ?_
    refine oz_ 34 49 37 34359738367 (fun K hK=>?_)
    refine value_ (w1:=?_) (v:=?_) (by rfl) rfl ?_ ?_
    rotate_left 2
    ·go_simp
     constructor
     ·rfl
     ·rfl
    refine hK.out _ _ ⟨(World.cell?_alloc_lt _ _ _ (World.block_lt_of_cell? _ _ ((cw_ HB hw4_0)))).trans ((cw_ HB hw4_0)),(World.cell?_alloc_lt _ _ _ (World.block_lt_of_cell? _ _ ((cw_ HB hw5_0)))).trans ((cw_ HB hw5_0)),(World.cell?_alloc_lt _ _ _ (World.block_lt_of_cell? _ _ ((cw_ HB hw6_0)))).trans ((cw_ HB hw6_0)),(World.cell?_alloc_lt _ _ _ (World.block_lt_of_cell? _ _ ((cw_ HB hw7_0)))).trans ((cw_ HB hw7_0))⟩ (fun hHeld=>?_)
    clear hK K
    refine no_ 49 ?_
    refine oz_ 35 50 37 68719476735 (fun K hK=>?_)
    refine Kd.R_append_step (Kd.int .i64) (w0:=w) w.heap.size (by rfl) (.tmp 15) (.tmp 49) 84 3 (.int .i64 0) 8 rfl Tryz.underlying84 info3 rfl (by decide) (by omega) u3 x3_1 (Go.bits .or .i64 (Go.bits .or .i64 (Go.bits .or .i64 (wrap64 ((wrap64 (rd l0 (ji5))) * 16777216)) (wrap64 ((wrap64 (rd l0 (ji8))) * 65536))) (wrap64 ((wrap64 (rd l0 (ji11))) * 256))) (wrap64 (rd l0 (ji14)))) [.int .i64 (Go.bits .or .i64 (Go.bits .or .i64 (Go.bits .or .i64 (wrap64 ((wrap64 (rd l0 (ji5))) * 16777216)) (wrap64 ((wrap64 (rd l0 (ji8))) * 65536))) (wrap64 ((wrap64 (rd l0 (ji11))) * 256))) (wrap64 (rd l0 (ji14))))] (fun _=>True) (fun _=>False) rfl rfl ?aP (fun _ hk=>hk.elim) ?aF ?aO ?aB ?aS ?aL ?_
    (case aP=>exact rfl)
    (case aB=>exact (bw_ HB))
    (case aF=>exact (fun _ _=>trivial))
    (case aO=>exact (kr_ HO_3.out))
    (case aS=>exact (sz_ HB))
    (case aL=>have:=LMc17.out;omega)
    intro v9 w19 ho hb hg hat
    rw [← Ny8.out] at ho
    replace HB:=am_ hb
    have HO10:=am_ ho
    clear HO_3
    clear ho hb hg hat
    refine hK.out _ _ ⟨(cw_ HB hw4_0),(cw_ HB hw5_0),(cw_ HB hw6_0),(cw_ HB hw7_0)⟩ (fun hHeld=>?_)
    clear hK K
    refine no_ 50 ?_
    refine pt_ 36 3 137438953471 ?_
    refine dn_ ?_
    try go_wp2
    go_roundg k1
    case measure => have:=HK1.out;omega
    case rel => exact ⟨(y8),(wrap64 (x4_1+1)),e1_,H',⟨by have:=HK1.out;omega⟩,⟨kr_ HO10.out⟩,⟨bw_ HB⟩⟩
   ·have H':=am_ H
    clear H
    go_wp2
    go_loopg [3,5] k1 (fun kq v3 v5 w'=>∃ (x3_2:List Int) (x5_2:Int),v5 = .int .i64 x5_2∧Aside0 (spec_l2Words.l1 kq x3_2 x5_2=some r)∧Aside0 (kq≤k1)∧Aside0 (Kd.R (Kd.int .i64) 3 w' w.heap.size (fun _=>True) v3 x3_2)∧Aside0 (Below w.heap.size w w'))
    case atStart => exact ⟨(x3_1),(16),e1_,H',⟨Nat.le_refl _⟩,⟨kr_ HO_3.out⟩,⟨bw_ HB⟩⟩
    case round =>
     clear H'
     try clear c1
     try clear p2
     try clear c4b0
     obtain ⟨x3_2,x5_2,rfl,HA,HK2,HO_3,HB⟩:=hrel
     cases gk with
     | zero=>exact absurd HA.out (by simp [spec_l2Words.l1])
     | succ k2 =>
      have H:=HA.out
      clear HA
      simp only [spec_l2Words.l1] at H
      replace H:=itd_ H;obtain ⟨c20b0,H⟩|⟨c20b0,H⟩:=H
      ·generalize hji21:(wrap64 (x5_2 - 15))=ji21 at H
       have hji21w:(IntKind.i64.wrap (x5_2 - 15))=ji21:=(i64_w _).trans hji21
       replace H:=ipd_ H;obtain ⟨c22b0,H⟩:=H
       replace H:=ipd_ H;obtain ⟨c23b0,H⟩:=H
       generalize hji24:(wrap64 (x5_2 - 2))=ji24 at H
       have hji24w:(IntKind.i64.wrap (x5_2 - 2))=ji24:=(i64_w _).trans hji24
       replace H:=ipd_ H;obtain ⟨c25b0,H⟩:=H
       replace H:=ipd_ H;obtain ⟨c26b0,H⟩:=H
       replace H:=bi_ H;obtain ⟨t13,A27,H⟩:=H
       replace H:=bi_ H;obtain ⟨t14,A28,H⟩:=H
       replace H:=bi_ H;obtain ⟨t15,A29,H⟩:=H
       replace H:=bi_ H;obtain ⟨t16,A30,H⟩:=H
       generalize hji31:(wrap64 (x5_2 - 16))=ji31 at H
       (try rw [hji31] at A27)
       (try rw [hji31] at A28)
       (try rw [hji31] at A29)
       (try rw [hji31] at A30)
       have hji31w:(IntKind.i64.wrap (x5_2 - 16))=ji31:=(i64_w _).trans hji31
       replace H:=ipd_ H;obtain ⟨c32b0,H⟩:=H
       replace H:=ipd_ H;obtain ⟨c33b0,H⟩:=H
       generalize hji34:(wrap64 (x5_2 - 7))=ji34 at H
       (try rw [hji34] at A27)
       (try rw [hji34] at A28)
       (try rw [hji34] at A29)
       (try rw [hji34] at A30)
       have hji34w:(IntKind.i64.wrap (x5_2 - 7))=ji34:=(i64_w _).trans hji34
       replace H:=ipd_ H;obtain ⟨c35b0,H⟩:=H
       replace H:=ipd_ H;obtain ⟨c36b0,H⟩:=H
       replace H:=ip_ H;obtain ⟨c37,H⟩:=H
       have LMc37:=am_ c37
       clear c37
       obtain ⟨y19,hy19⟩:∃ y_:List Int,y_=(x3_2 ++ [Go.bits .and .i64 (wrap64 ((wrap64 ((wrap64 ((rd x3_2 (ji31)) + (Go.bits .xor .i64 (Go.bits .xor .i64 t13 t14) ((rd x3_2 (ji21)) / 8)))) + (rd x3_2 (ji34)))) + (Go.bits .xor .i64 (Go.bits .xor .i64 t15 t16) ((rd x3_2 (ji24)) / 1024)))) 4294967295]):=⟨_,rfl⟩
       replace H:(spec_l2Words.l1 k2 y19 (wrap64 (x5_2+1)))=some r:=yh_ hy19 H
       have Ny19:=am_ hy19
       clear hy19
       have H':=am_ H
       clear H
       obtain ⟨Ao38,co38,eo38⟩:=Kd.R_slice HO_3.out
       subst eo38
       obtain ⟨ad11,e11,hx11_0,p11,q11⟩:=ai_ (Kd.R_reads' HO_3.out).2.2 (ji21)
       cases e11
       have p12:0≤((ji24):Int):=od_
       have q12:(ji24) < (x3_2.length:Int):=od_
       obtain ⟨ad12,e12,hx12_0⟩:=Kd.at_int (Kd.R_reads' HO_3.out).2.2 (ji24) p12 q12
       obtain rfl:ad11=ad12:=(by injection e12)
       replace p12:=eq_true p12
       replace q12:=eq_true q12
       try go_wp2_with (first|((with_reducible refine gk_ 164 ?_);refine gm_ hji21 66 Tryz.func164 #[.int .i64 (rd x3_2 (ji21)),.int .i64 7] ?_;(with_reducible refine (spec_l2Turn.calls (rd x3_2 (ji21)) 7 t13 _ A27.out).mono ?_);rintro e w' ⟨rfl,⟨nd,rfl⟩⟩;refine ⟨_,rfl,?_⟩)|((with_reducible refine gk_ 164 ?_);refine gm_ hji21 68 Tryz.func164 #[.int .i64 (rd x3_2 (ji21)),.int .i64 18] ?_;(with_reducible refine (spec_l2Turn.calls (rd x3_2 (ji21)) 18 t14 _ A28.out).mono ?_);rintro e w' ⟨rfl,⟨nd,rfl⟩⟩;refine ⟨_,rfl,?_⟩)|((with_reducible refine gk_ 164 ?_);refine gm_ hji24 74 Tryz.func164 #[.int .i64 (rd x3_2 (ji24)),.int .i64 17] ?_;(with_reducible refine (spec_l2Turn.calls (rd x3_2 (ji24)) 17 t15 _ A29.out).mono ?_);rintro e w' ⟨rfl,⟨nd,rfl⟩⟩;refine ⟨_,rfl,?_⟩)|((with_reducible refine gk_ 164 ?_);refine gm_ hji24 76 Tryz.func164 #[.int .i64 (rd x3_2 (ji24)),.int .i64 19] ?_;(with_reducible refine (spec_l2Turn.calls (rd x3_2 (ji24)) 19 t16 _ A30.out).mono ?_);rintro e w' ⟨rfl,⟨nd,rfl⟩⟩;refine ⟨_,rfl,?_⟩))
       (try (rw [drewN_self wr];generalize hq_:World.drewN wr _=wr;have n0_:Aside0 (Kd.R (Kd.int .i64) 3 wr w.heap.size (fun _=>True) (.slice (some ad11) x3_2.length co38) x3_2):=⟨by rw [← hq_];exact (kr_ HO_3.out)⟩;have n1_:Aside0 (Below w.heap.size w wr):=⟨by rw [← hq_];exact (bw_ HB)⟩;clear HO_3 HB hq_;have HO_3:=n0_;have HB:=n1_;clear n0_ n1_))
       replace HO_3:=am_ (Kd.R_drew HO_3.out)
       replace HB:=hd_ HB
       have p17:0≤((ji31):Int):=od_
       have q17:(ji31) < (x3_2.length:Int):=od_
       obtain ⟨ad17,e17,hx17_0⟩:=Kd.at_int (Kd.R_reads' HO_3.out).2.2 (ji31) p17 q17
       obtain rfl:ad11=ad17:=(by injection e17)
       replace p17:=eq_true p17
       replace q17:=eq_true q17
       have p18:0≤((ji34):Int):=od_
       have q18:(ji34) < (x3_2.length:Int):=od_
       obtain ⟨ad18,e18,hx18_0⟩:=Kd.at_int (Kd.R_reads' HO_3.out).2.2 (ji34) p18 q18
       obtain rfl:ad11=ad18:=(by injection e18)
       replace p18:=eq_true p18
       replace q18:=eq_true q18
       refine sw_ 20 (fun w'=>w'.cell? (ad11.add ((ji31)).toNat)=some (.int .i64 (rd x3_2 (ji31)))∧w'.cell? (ad11.add ((ji34)).toNat)=some (.int .i64 (rd x3_2 (ji34)))) [17,18] spec_l2Words.tab13 spec_l2Words.bits13 ⟨hx17_0,hx18_0⟩ (fun hHeld HT_ HW_=>?_)
       generalize wr.drew=w39 at HO_3 HB hx17_0 hx18_0 hHeld ⊢
       refine pt_ 0 81 1 ?_
       refine pt_ 1 82 3 ?_
       refine pt_ 2 83 7 ?_
       refine pt_ 3 84 15 ?_
       refine pt_ 4 85 31 ?_
       refine pt_ 6 87 95 ?_
       refine pt_ 8 89 351 ?_
       refine pt_ 9 90 863 ?_
       refine pt_ 10 91 1887 ?_
       refine pt_ 11 92 3935 ?_
       refine pt_ 14 95 20319 ?_
       refine tt_ 5 86 20351 ?_
       refine pt_ 7 88 20479 ?_
       refine tt_ 12 93 24575 ?_
       refine pt_ 13 94 32767 ?_
       refine pt_ 15 96 65535 ?_
       refine pt_ 16 97 131071 ?_
       refine last_ (i:=17) (N:=some 98) (lz_ 20 262143) rfl rfl (one_of HT_.out (by kernel_rfl)) (by decide) (fun K hK=>?_)
       refine value_ (w1:=?_) (v:=?_) (by rfl) rfl ?_ ?_
       rotate_left 2
       ·go_simp
        constructor
        ·rfl
        ·rfl
       refine hK.out _ _ ?_
       clear hK K
       refine no_ 98 ?_
       refine last_ (i:=18) (N:=some 99) (lz_ 20 524287) rfl rfl (one_of HT_.out (by kernel_rfl)) (by decide) (fun K hK=>?_)
       refine Kd.R_append_step (Kd.int .i64) (w0:=w) w.heap.size (by rfl) (.tmp 81) (.tmp 98) 84 3 (.int .i64 0) 8 rfl Tryz.underlying84 info3 rfl (by decide) (by omega) (.slice (some ad11) x3_2.length co38) x3_2 (Go.bits .and .i64 (wrap64 ((wrap64 ((wrap64 ((rd x3_2 (ji31)) + (Go.bits .xor .i64 (Go.bits .xor .i64 t13 t14) ((rd x3_2 (ji21)) / 8)))) + (rd x3_2 (ji34)))) + (Go.bits .xor .i64 (Go.bits .xor .i64 t15 t16) ((rd x3_2 (ji24)) / 1024)))) 4294967295) [.int .i64 (Go.bits .and .i64 (wrap64 ((wrap64 ((wrap64 ((rd x3_2 (ji31)) + (Go.bits .xor .i64 (Go.bits .xor .i64 t13 t14) ((rd x3_2 (ji21)) / 8)))) + (rd x3_2 (ji34)))) + (Go.bits .xor .i64 (Go.bits .xor .i64 t15 t16) ((rd x3_2 (ji24)) / 1024)))) 4294967295)] (fun _=>True) (fun _=>False) rfl rfl ?aP (fun _ hk=>hk.elim) ?aF ?aO ?aB ?aS ?aL ?_
       (case aP=>exact rfl)
       (case aB=>exact (bw_ HB))
       (case aF=>exact (fun _ _=>trivial))
       (case aO=>exact (kr_ HO_3.out))
       (case aS=>exact (sz_ HB))
       (case aL=>have:=LMc37.out;omega)
       intro v20 w40 ho hb hg hat
       rw [← Ny19.out] at ho
       replace HB:=am_ hb
       have HO21:=am_ ho
       clear HO_3
       clear ho hb hg hat
       refine hK.out _ _ ?_
       clear hK K
       refine no_ 99 ?_
       refine pt_ 19 3 1048575 ?_
       refine dn_ ?_
       try go_wp2
       go_roundg k2
       case measure => have:=HK1.out;have:=HK2.out;omega
       case rel => exact ⟨(y19),(wrap64 (x5_2+1)),e1_,H',⟨by have:=HK1.out;have:=HK2.out;omega⟩,⟨kr_ HO21.out⟩,⟨bw_ HB⟩⟩
      ·obtain rfl:=Option.some.inj H
       go_wp2
       go_ret
       exact ⟨_,e2_,kr_ HO_3.out,bw_ HB⟩
mutual
def spec_l2Block.l0:Nat->List Int->List Int->List Int->List Int->Int->Option (List Int)
 | 0,_,_,_,_,_=>none
 | k+1,x0,x2,x7,x8,x9=>if x9 < 64 then (if 4 < (x8.length:Int) then ((spec_l2Turn.f (rd x8 4) 6).bind fun t11=>((spec_l2Turn.f (rd x8 4) 11).bind fun t12=>((spec_l2Turn.f (rd x8 4) 25).bind fun t13=>(if 5 < (x8.length:Int) then (if 6 < (x8.length:Int) then (if 7 < (x8.length:Int) then (if 0≤x9 then (if x9 < (x2.length:Int) then (if x9 < (x7.length:Int) then (if 0 < (x8.length:Int) then ((spec_l2Turn.f (rd x8 0) 2).bind fun t20=>((spec_l2Turn.f (rd x8 0) 13).bind fun t21=>((spec_l2Turn.f (rd x8 0) 22).bind fun t22=>(if 1 < (x8.length:Int) then (if 2 < (x8.length:Int) then (if 3 < (x8.length:Int) then (spec_l2Block.l0 k x0 x2 x7 (([Go.bits .and .i64 (wrap64 ((wrap64 ((wrap64 ((wrap64 ((wrap64 ((rd x8 7) + (Go.bits .xor .i64 (Go.bits .xor .i64 t11 t12) t13))) + (Go.bits .xor .i64 (Go.bits .and .i64 (rd x8 4) (rd x8 5)) (Go.bits .and .i64 (Go.bits .xor .i64 4294967295 (rd x8 4)) (rd x8 6))))) + (rd x2 x9))) + (rd x7 x9))) + (wrap64 ((Go.bits .xor .i64 (Go.bits .xor .i64 t20 t21) t22) + (Go.bits .xor .i64 (Go.bits .xor .i64 (Go.bits .and .i64 (rd x8 0) (rd x8 1)) (Go.bits .and .i64 (rd x8 0) (rd x8 2))) (Go.bits .and .i64 (rd x8 1) (rd x8 2))))))) 4294967295,rd x8 0,rd x8 1,rd x8 2,Go.bits .and .i64 (wrap64 ((rd x8 3) + (wrap64 ((wrap64 ((wrap64 ((wrap64 ((rd x8 7) + (Go.bits .xor .i64 (Go.bits .xor .i64 t11 t12) t13))) + (Go.bits .xor .i64 (Go.bits .and .i64 (rd x8 4) (rd x8 5)) (Go.bits .and .i64 (Go.bits .xor .i64 4294967295 (rd x8 4)) (rd x8 6))))) + (rd x2 x9))) + (rd x7 x9))))) 4294967295,rd x8 4,rd x8 5,rd x8 6]:List Int)) (wrap64 (x9+1))) else (none)) else (none)) else (none))))) else (none)) else (none)) else (none)) else (none)) else (none)) else (none)) else (none))))) else (none)) else (spec_l2Block.l1 k x0 x8 0)
def spec_l2Block.l1:Nat->List Int->List Int->Int->Option (List Int)
 | 0,_,_,_=>none
 | k+1,x0,x8,x18=>if x18 < 8 then (if 0≤x18 then (if x18 < (x8.length:Int) then (if x18 < (x0.length:Int) then (spec_l2Block.l1 k x0 (x8.set (x18:Int).toNat (Go.bits .and .i64 (wrap64 ((rd x8 x18) + (rd x0 x18))) 4294967295)) (wrap64 (x18+1))) else (none)) else (none)) else (none)) else (some x8)
end
def spec_l2Block.f (k:Nat) (l0:List Int) (l1:List Int) (l2:List Int):Option (List Int):=(spec_l2Words.f k l1).bind fun t1=>((some (([]:List Int):List Int)).bind fun y604=>(if y604.length+l0.length < 17592186044416 then (spec_l2Block.l0 k l0 l2 t1 (y604 ++ l0) 0) else (none)))
def spec_l2Block.T8:Bool × List (List Nat × List Nat):=(true,[([],[]),([],[]),([1],[1]),([2],[2]),([0,3],[0,3]),([],[]),([5],[5]),([],[]),([7],[7]),([8],[8]),([6,9],[6,9]),([4,10],[4,10]),([11,0,1,2,3,4,5,6,7,8,9,10,11],[11])])
def spec_l2Block.B8:List Nat:=[0,0,2,6,15,0,32,0,128,384,992,2047,4095]
theorem spec_l2Block.tab8:rtab .any (opsOf Tryz.f142 8)=spec_l2Block.T8:=by kernel_rfl
theorem spec_l2Block.bits8:waitsOk spec_l2Block.T8.2 spec_l2Block.B8=true:=by kernel_rfl
def spec_l2Block.T9:Bool × List (List Nat × List Nat):=(true,[([],[]),([0],[0]),([1],[1]),([],[]),([2,3],[2,3]),([],[]),([4,5],[4,5]),([],[]),([],[]),([7,8],[7,8]),([9],[9]),([6,10],[6,10]),([],[]),([],[]),([12,13],[12,13]),([14],[14]),([11,15],[11,15]),([16,0,1,2,3,4,5,6,7,8,9,10,11,12,13,14,15,16],[16])])
def spec_l2Block.B9:List Nat:=[0,1,3,0,15,0,63,0,0,384,896,2047,0,0,12288,28672,65535,131071]
theorem spec_l2Block.tab9:rtab .any (opsOf Tryz.f142 9)=spec_l2Block.T9:=by kernel_rfl
theorem spec_l2Block.bits9:waitsOk spec_l2Block.T9.2 spec_l2Block.B9=true:=by kernel_rfl
def spec_l2Block.T12:Bool × List (List Nat × List Nat):=(true,[([],[]),([],[]),([1],[1]),([2],[2]),([0,3],[0,3]),([],[]),([],[]),([6],[6]),([7],[7]),([5,8],[5,8]),([4,9],[4,9]),([],[]),([11],[11]),([12],[12]),([],[]),([14],[14]),([15],[15]),([13,16],[13,16]),([10,17],[10,17]),([18,0,1,2,3,4,5,6,7,8,9,10,11,12,13,14,15,16,17,18],[18])])
def spec_l2Block.B12:List Nat:=[0,0,2,6,15,0,0,64,192,480,1023,0,2048,6144,0,16384,49152,129024,262143,524287]
theorem spec_l2Block.tab12:rtab .any (opsOf Tryz.f142 12)=spec_l2Block.T12:=by kernel_rfl
theorem spec_l2Block.bits12:waitsOk spec_l2Block.T12.2 spec_l2Block.B12=true:=by kernel_rfl
def spec_l2Block.T14:Bool × List (List Nat × List Nat):=(true,[([],[]),([],[]),([0,1],[0,1]),([2],[2]),([],[]),([],[]),([5],[5]),([6],[6]),([],[]),([8],[8]),([9],[9]),([],[]),([11],[11]),([12],[12]),([],[]),([13,14],[13,14]),([15],[15]),([],[]),([],[]),([18],[18]),([19],[19]),([],[]),([21],[21]),([22],[22]),([3,4,7,10,16,17,20,23],[3,4,7,10,16,17,20,23]),([24,0,1,2,3,4,5,6,7,8,9,10,11,12,13,14,15,16,17,18,19,20,21,22,23,24],[5,8,11,18,21,24])])
def spec_l2Block.B14:List Nat:=[0,0,3,7,0,0,32,96,0,256,768,0,2048,6144,0,30720,63488,0,0,262144,786432,0,2097152,6291456,16777215,33554431]
theorem spec_l2Block.tab14:rtab .any (opsOf Tryz.f142 14)=spec_l2Block.T14:=by kernel_rfl
theorem spec_l2Block.bits14:waitsOk spec_l2Block.T14.2 spec_l2Block.B14=true:=by kernel_rfl
def spec_l2Block.T18:Bool × List (List Nat × List Nat):=(true,[([],[]),([],[]),([],[]),([],[]),([2,3],[2,3]),([4],[4]),([],[]),([],[]),([6,7],[6,7]),([8],[8]),([5,9],[5,9]),([10],[10]),([0,1,0,1,2,3,4,5,6,7,8,9,10,11],[0,1]),([12,11,0,1,2,3,4,5,6,7,8,9,10,11],[11,12])])
def spec_l2Block.B18:List Nat:=[0,0,0,0,12,28,0,0,192,448,1020,2044,4095,8191]
theorem spec_l2Block.tab18:rtab .any (opsOf Tryz.f142 18)=spec_l2Block.T18:=by kernel_rfl
theorem spec_l2Block.bits18:waitsOk spec_l2Block.T18.2 spec_l2Block.B18=true:=by kernel_rfl
theorem spec_l2Block.calls (k:Nat) (A0:Option Addr) (c0:Nat) (l0:List Int) (A1:Option Addr) (c1:Nat) (l1:List Int) (A2:Option Addr) (c2:Nat) (l2:List Int) (r:List Int) (w:World) (hr0:Kd.C (Kd.int .i64) w A0 l0.length l0) (hc0:l0.length≤c0) (hr1:Kd.C (Kd.int .u8) w A1 l1.length l1) (hc1:l1.length≤c1) (hr2:Kd.C (Kd.int .i64) w A2 l2.length l2) (hc2:l2.length≤c2) (h:spec_l2Block.f k l0 l1 l2=some r) :
  Calls Tryz.prog 142 #[.slice A0 l0.length c0,.slice A1 l1.length c1,.slice A2 l2.length c2] w fun e w'=>∃ v0_:Value,e = .returned (v0_)∧Kd.R (Kd.int .i64) 3 w' w.heap.size (fun _=>True) v0_ r∧Below w.heap.size w w':=by
 have HR0:=am_ hr0
 have HC0:=am_ hc0
 clear hr0 hc0
 have HR1:=am_ hr1
 have HC1:=am_ hc1
 clear hr1 hc1
 have HR2:=am_ hr2
 have HC2:=am_ hc2
 clear hr2 hc2
 have HB:=h0_ w
 have H:((spec_l2Words.f k l1).bind fun t1=>((some (([]:List Int):List Int)).bind fun y604=>(if y604.length+l0.length < 17592186044416 then (spec_l2Block.l0 k l0 l2 t1 (y604 ++ l0) 0) else (none))))=some r:=h
 clear h
 replace H:=bi_ H;obtain ⟨t1,A4,H⟩:=H
 obtain ⟨y604,Ny4,H⟩:=sb_ (([]:List Int)) H
 replace H:=ip_ H;obtain ⟨c5,H⟩:=H
 have LMc5:=am_ c5
 clear c5
 obtain ⟨y607,hy7⟩:∃ y_:List Int,y_=(y604 ++ l0):=⟨_,rfl⟩
 replace H:(spec_l2Block.l0 k l0 l2 t1 y607 0)=some r:=yh_ hy7 H
 have Ny7:=am_ hy7
 clear hy7
 have H':=am_ H
 clear H
 go_enter Tryz.func142,Tryz.ntmps142
 go_wp2_with (first|((with_reducible refine gq_ 163 20 ?_);refine gc_ 20 Tryz.func163 (spec_l2Words.calls k _ _ l1 t1 _ (cr_ HR1.out) HC1.out A4.out) ?_;rintro e w6 ⟨v2,rfl,ho0,hb⟩;refine ⟨_,rfl,?_⟩;have HO3:=rlo_ ho0 HB;replace HB:=ss_ HB hb;clear hb ho0)|((with_reducible refine gd_ 21 ?_);refine rl_ (Kd.int .i64) 3 21 ([]:List Int) [] ?_;intro v5 w7 ho8 hb hg_ hnew_;clear hg_ hnew_;(first|rw [← Ny4.out] at ho8|(simp only [Int.reduceToNat] at ho8;rw [← Ny4.out] at ho8));have HO6:=am_ (Kd.R_lower (Kd.R_new' ho8 (lt_ HO3)) (sz_ HB));replace HO3:=re_ HO3 ho8 hb;replace HB:=ss_ HB hb;clear hb ho8)|((with_reducible refine gate_builtin (b:=.append) (xs:=#[.tmp 21,.tmp 22]) rfl ?_);at_builtin;refine Kd.R_append_rows (Kd.int .i64) (w0:=w) w.heap.size rfl (.tmp 21) (.tmp 22) 84 3 (.int .i64 0) 8 rfl Tryz.underlying84 info3 rfl (by decide) (by omega) v5 y604 l0 _ _ _ (fun k_=>some k_ ≠ (v2:Value).ownBlock) (fun _=>False) rfl rfl ?aO ?aR (fun _ _ h=>h) (fun _ h=>h.elim) ?aF ?aB ?aS ?aL ?_;(case aR=>exact cb_ HR0 HB);(case aB=>exact (bw_ HB));(case aF=>exact (fun k_ hk=>Kd.fresh' (lt_ HO3) k_ hk));(case aO=>exact (kr_ (Kd.R_mono HO6.out (fun _ hk=>hk.2))));(case aS=>exact (sz_ HB));(case aL=>have:=LMc5.out;omega);intro v608 w9 ho hb hg hat;rw [← Ny7.out] at ho;replace HO3:=am_ (Kd.R_after (ok:=(fun _=>True)) (kr_ HO3.out) hg hat);replace HB:=am_ hb;have HO9:=am_ ho;clear HO6;clear ho hb hg hat))
 go_loopg [8,9] k (fun kq v8 v9 w'=>∃ (x8_1:List Int) (x9_1:Int),v9 = .int .i64 x9_1∧Aside0 (spec_l2Block.l0 kq l0 l2 t1 x8_1 x9_1=some r)∧Aside0 (kq≤k)∧Aside0 (Kd.R (Kd.int .i64) 3 w' w.heap.size (fun k_=>some k_ ≠ (v8:Value).ownBlock) v2 t1)∧Aside0 (Kd.R (Kd.int .i64) 3 w' w.heap.size (fun k_=>some k_ ≠ (v2:Value).ownBlock) v8 x8_1)∧Aside0 (Below w.heap.size w w'))
 case atStart => exact ⟨(y607),(0),e1_,H',⟨Nat.le_refl _⟩,⟨kr_ (Kd.R_mono HO3.out (fun _ hk=>hk.2))⟩,⟨kr_ HO9.out⟩,⟨bw_ HB⟩⟩
 case round =>
  clear H'
  try clear c5
  obtain ⟨x8_1,x9_1,rfl,HA,HK1,HO_7,HO_8,HB⟩:=hrel
  cases gk with
  | zero=>exact absurd HA.out (by simp [spec_l2Block.l0])
  | succ k1 =>
   have H:=HA.out
   clear HA
   simp only [spec_l2Block.l0] at H
   replace H:=itd_ H;obtain ⟨c10b0,H⟩|⟨c10b0,H⟩:=H
   ·replace H:=ip_ H;obtain ⟨c11,H⟩:=H
    have c11b0:=decide_eq_true c11
    have c11b1:decide (4 < x8_1.length)=true:=decide_eq_true (by omega)
    clear c11
    replace H:=bi_ H;obtain ⟨t11,A12,H⟩:=H
    replace H:=bi_ H;obtain ⟨t12,A13,H⟩:=H
    replace H:=bi_ H;obtain ⟨t13,A14,H⟩:=H
    replace H:=ip_ H;obtain ⟨c15,H⟩:=H
    have c15b0:=decide_eq_true c15
    have c15b1:decide (5 < x8_1.length)=true:=decide_eq_true (by omega)
    clear c15
    replace H:=ip_ H;obtain ⟨c16,H⟩:=H
    have c16b0:=decide_eq_true c16
    have c16b1:decide (6 < x8_1.length)=true:=decide_eq_true (by omega)
    clear c16
    replace H:=ip_ H;obtain ⟨c17,H⟩:=H
    have c17b0:=decide_eq_true c17
    have c17b1:decide (7 < x8_1.length)=true:=decide_eq_true (by omega)
    clear c17
    replace H:=ipd_ H;obtain ⟨c18b0,H⟩:=H
    replace H:=ipd_ H;obtain ⟨c19b0,H⟩:=H
    replace H:=ipd_ H;obtain ⟨c20b0,H⟩:=H
    replace H:=ip_ H;obtain ⟨c21,H⟩:=H
    have c21b0:=decide_eq_true c21
    have c21b1:decide (0 < x8_1.length)=true:=decide_eq_true (by omega)
    clear c21
    replace H:=bi_ H;obtain ⟨t20,A22,H⟩:=H
    replace H:=bi_ H;obtain ⟨t21,A23,H⟩:=H
    replace H:=bi_ H;obtain ⟨t22,A24,H⟩:=H
    replace H:=ip_ H;obtain ⟨c25,H⟩:=H
    have c25b0:=decide_eq_true c25
    have c25b1:decide (1 < x8_1.length)=true:=decide_eq_true (by omega)
    clear c25
    replace H:=ip_ H;obtain ⟨c26,H⟩:=H
    have c26b0:=decide_eq_true c26
    have c26b1:decide (2 < x8_1.length)=true:=decide_eq_true (by omega)
    clear c26
    replace H:=ip_ H;obtain ⟨c27,H⟩:=H
    have c27b0:=decide_eq_true c27
    have c27b1:decide (3 < x8_1.length)=true:=decide_eq_true (by omega)
    clear c27
    obtain ⟨y32,hy32⟩:∃ y_:List Int,y_=(([Go.bits .and .i64 (wrap64 ((wrap64 ((wrap64 ((wrap64 ((wrap64 ((rd x8_1 7) + (Go.bits .xor .i64 (Go.bits .xor .i64 t11 t12) t13))) + (Go.bits .xor .i64 (Go.bits .and .i64 (rd x8_1 4) (rd x8_1 5)) (Go.bits .and .i64 (Go.bits .xor .i64 4294967295 (rd x8_1 4)) (rd x8_1 6))))) + (rd l2 x9_1))) + (rd t1 x9_1))) + (wrap64 ((Go.bits .xor .i64 (Go.bits .xor .i64 t20 t21) t22) + (Go.bits .xor .i64 (Go.bits .xor .i64 (Go.bits .and .i64 (rd x8_1 0) (rd x8_1 1)) (Go.bits .and .i64 (rd x8_1 0) (rd x8_1 2))) (Go.bits .and .i64 (rd x8_1 1) (rd x8_1 2))))))) 4294967295,rd x8_1 0,rd x8_1 1,rd x8_1 2,Go.bits .and .i64 (wrap64 ((rd x8_1 3) + (wrap64 ((wrap64 ((wrap64 ((wrap64 ((rd x8_1 7) + (Go.bits .xor .i64 (Go.bits .xor .i64 t11 t12) t13))) + (Go.bits .xor .i64 (Go.bits .and .i64 (rd x8_1 4) (rd x8_1 5)) (Go.bits .and .i64 (Go.bits .xor .i64 4294967295 (rd x8_1 4)) (rd x8_1 6))))) + (rd l2 x9_1))) + (rd t1 x9_1))))) 4294967295,rd x8_1 4,rd x8_1 5,rd x8_1 6]:List Int)):=⟨_,rfl⟩
    replace H:(spec_l2Block.l0 k1 l0 l2 t1 y32 (wrap64 (x9_1+1)))=some r:=yh_ hy32 H
    have Ny32:=am_ hy32
    clear hy32
    have H':=am_ H
    clear H
    obtain ⟨Ao28,co28,eo28⟩:=Kd.R_slice HO_8.out
    subst eo28
    have p10:0≤(4:Int):=(by omega)
    have q10:4 < (x8_1.length:Int):=od_
    obtain ⟨ad10,e10,hx10_0⟩:=Kd.at_int (Kd.R_reads' HO_8.out).2.2 4 p10 q10
    cases e10
    (try simp only [show (4:Int).toNat=4 from rfl,Nat.reduceMul,Nat.reduceEqDiff,Go.Addr.add,↓reduceIte] at hx10_0)
    have qi10:(4 < x8_1.length)=True:=eq_true (by omega)
    (try rw [show ((4:Int)).toNat=4 from rfl] at hx10_0)
    replace p10:=eq_true p10
    replace q10:=eq_true q10
    try go_wp2_with (first|((with_reducible refine gq_ 164 32 ?_);refine gc_ 32 Tryz.func164 (spec_l2Turn.calls (rd x8_1 4) 6 t11 _ A12.out) ?_;rintro e w' ⟨rfl,⟨nd,rfl⟩⟩;refine ⟨_,rfl,?_⟩)|((with_reducible refine gq_ 164 34 ?_);refine gc_ 34 Tryz.func164 (spec_l2Turn.calls (rd x8_1 4) 11 t12 _ A13.out) ?_;rintro e w' ⟨rfl,⟨nd,rfl⟩⟩;refine ⟨_,rfl,?_⟩)|((with_reducible refine gq_ 164 37 ?_);refine gc_ 37 Tryz.func164 (spec_l2Turn.calls (rd x8_1 4) 25 t13 _ A14.out) ?_;rintro e w' ⟨rfl,⟨nd,rfl⟩⟩;refine ⟨_,rfl,?_⟩))
    (try (rw [drewN_self wr];generalize hq_:World.drewN wr _=wr;have n0_:Aside0 (Kd.R (Kd.int .i64) 3 wr w.heap.size (fun k_=>some k_ ≠ (.slice (some ad10) x8_1.length co28:Value).ownBlock) v2 t1):=⟨by rw [← hq_];exact (kr_ HO_7.out)⟩;have n1_:Aside0 (Kd.R (Kd.int .i64) 3 wr w.heap.size (fun k_=>some k_ ≠ (v2:Value).ownBlock) (.slice (some ad10) x8_1.length co28) x8_1):=⟨by rw [← hq_];exact (kr_ HO_8.out)⟩;have n2_:Aside0 (Below w.heap.size w wr):=⟨by rw [← hq_];exact (bw_ HB)⟩;clear HO_7 HO_8 HB hq_;have HO_7:=n0_;have HO_8:=n1_;have HB:=n2_;clear n0_ n1_ n2_))
    replace HO_7:=am_ (Kd.R_drew HO_7.out)
    replace HO_8:=am_ (Kd.R_drew HO_8.out)
    replace HB:=hd_ HB
    have p14:0≤(5:Int):=(by omega)
    have q14:5 < (x8_1.length:Int):=od_
    obtain ⟨ad14,e14,hx14_0⟩:=Kd.at_int (Kd.R_reads' HO_8.out).2.2 5 p14 q14
    obtain rfl:ad10=ad14:=(by injection e14)
    (try simp only [show (5:Int).toNat=5 from rfl,Nat.reduceMul,Nat.reduceEqDiff,Go.Addr.add,↓reduceIte] at hx14_0)
    have qi14:(5 < x8_1.length)=True:=eq_true (by omega)
    (try rw [show ((5:Int)).toNat=5 from rfl] at hx14_0)
    replace p14:=eq_true p14
    replace q14:=eq_true q14
    have p15:0≤(6:Int):=(by omega)
    have q15:6 < (x8_1.length:Int):=od_
    obtain ⟨ad15,e15,hx15_0⟩:=Kd.at_int (Kd.R_reads' HO_8.out).2.2 6 p15 q15
    obtain rfl:ad10=ad15:=(by injection e15)
    (try simp only [show (6:Int).toNat=6 from rfl,Nat.reduceMul,Nat.reduceEqDiff,Go.Addr.add,↓reduceIte] at hx15_0)
    have qi15:(6 < x8_1.length)=True:=eq_true (by omega)
    (try rw [show ((6:Int)).toNat=6 from rfl] at hx15_0)
    replace p15:=eq_true p15
    replace q15:=eq_true q15
    refine sw_ 13 (fun w'=>w'.cell? ⟨ad10.block,ad10.off+5,none⟩=some (.int .i64 (rd x8_1 5))∧w'.cell? ⟨ad10.block,ad10.off+6,none⟩=some (.int .i64 (rd x8_1 6))) [] spec_l2Block.tab8 spec_l2Block.bits8 ⟨hx14_0,hx15_0⟩ (fun hHeld HT_ HW_=>?_)
    generalize wr.drew=w29 at HO_7 HO_8 HB hx14_0 hx15_0 hHeld ⊢
    refine pt_ 0 39 1 ?_
    refine pt_ 1 40 3 ?_
    refine pt_ 2 41 7 ?_
    refine pt_ 5 44 39 ?_
    refine pt_ 6 45 103 ?_
    refine pt_ 7 46 231 ?_
    refine pt_ 8 47 487 ?_
    refine tt_ 3 42 495 ?_
    refine pt_ 4 43 511 ?_
    refine tt_ 9 48 1023 ?_
    refine pt_ 10 49 2047 ?_
    refine pt_ 11 50 4095 ?_
    refine pt_ 12 12 8191 ?_
    refine dn_ ?_
    try go_wp2
    replace HO_7:=am_ (Kd.R_drew HO_7.out)
    replace HO_8:=am_ (Kd.R_drew HO_8.out)
    replace HB:=hd_ HB
    have p16:0≤(7:Int):=(by omega)
    have q16:7 < (x8_1.length:Int):=od_
    obtain ⟨ad16,e16,hx16_0⟩:=Kd.at_int (Kd.R_reads' HO_8.out).2.2 7 p16 q16
    obtain rfl:ad10=ad16:=(by injection e16)
    (try simp only [show (7:Int).toNat=7 from rfl,Nat.reduceMul,Nat.reduceEqDiff,Go.Addr.add,↓reduceIte] at hx16_0)
    have qi16:(7 < x8_1.length)=True:=eq_true (by omega)
    (try rw [show ((7:Int)).toNat=7 from rfl] at hx16_0)
    replace p16:=eq_true p16
    replace q16:=eq_true q16
    have p17:0≤(x9_1:Int):=od_
    have q17:x9_1 < (l2.length:Int):=od_
    obtain ⟨ad17,e17,hx17_0⟩:=Kd.at_int HR2.out x9_1 p17 q17
    have hw17_0:=hx17_0
    cases e17
    replace hx17_0:=cw_ HB hx17_0
    replace p17:=eq_true p17
    replace q17:=eq_true q17
    obtain ⟨Ao31,co31,eo31⟩:=Kd.R_slice HO_7.out
    subst eo31
    obtain ⟨ad18,e18,hx18_0,p18,q18⟩:=ai_ (Kd.R_reads' HO_7.out).2.2 x9_1
    cases e18
    refine sw_ 18 (fun w'=>w'.cell? ⟨ad10.block,ad10.off+7,none⟩=some (.int .i64 (rd x8_1 7))∧w'.cell? (ad17.add (x9_1).toNat)=some (.int .i64 (rd l2 x9_1))∧w'.cell? (ad18.add (x9_1).toNat)=some (.int .i64 (rd t1 x9_1))) [] spec_l2Block.tab9 spec_l2Block.bits9 ⟨hx16_0,(cw_ HB hw17_0),hx18_0⟩ (fun hHeld HT_ HW_=>?_)
    generalize w29.drew=w30 at HO_7 HO_8 HB hx16_0 hx17_0 hx18_0 hHeld ⊢
    refine pt_ 0 51 1 ?_
    refine pt_ 1 52 3 ?_
    refine pt_ 3 54 11 ?_
    refine pt_ 5 56 43 ?_
    refine pt_ 7 58 171 ?_
    refine pt_ 8 59 427 ?_
    refine pt_ 9 60 939 ?_
    refine pt_ 12 63 5035 ?_
    refine pt_ 13 64 13227 ?_
    refine pt_ 14 65 29611 ?_
    refine tt_ 2 53 29615 ?_
    refine pt_ 4 55 29631 ?_
    refine pt_ 6 57 29695 ?_
    refine tt_ 10 61 30719 ?_
    refine pt_ 11 62 32767 ?_
    refine tt_ 15 66 65535 ?_
    refine pt_ 16 67 131071 ?_
    refine pt_ 17 13 262143 ?_
    refine dn_ ?_
    have p19:0≤(0:Int):=(by omega)
    have q19:0 < (x8_1.length:Int):=od_
    obtain ⟨ad19,e19,hx19_0⟩:=Kd.at_int (Kd.R_reads' HO_8.out).2.2 0 p19 q19
    obtain rfl:ad10=ad19:=(by injection e19)
    have qi19:(0 < x8_1.length)=True:=eq_true (by omega)
    (try rw [show ((0:Int)).toNat=0 from rfl] at hx19_0)
    (try rw [Addr.add_zero'] at hx19_0)
    replace p19:=eq_true p19
    replace q19:=eq_true q19
    try go_wp2_with (first|((with_reducible refine gq_ 164 72 ?_);refine gc_ 72 Tryz.func164 (spec_l2Turn.calls (rd x8_1 0) 2 t20 _ A22.out) ?_;rintro e w' ⟨rfl,⟨nd,rfl⟩⟩;refine ⟨_,rfl,?_⟩)|((with_reducible refine gq_ 164 74 ?_);refine gc_ 74 Tryz.func164 (spec_l2Turn.calls (rd x8_1 0) 13 t21 _ A23.out) ?_;rintro e w' ⟨rfl,⟨nd,rfl⟩⟩;refine ⟨_,rfl,?_⟩)|((with_reducible refine gq_ 164 77 ?_);refine gc_ 77 Tryz.func164 (spec_l2Turn.calls (rd x8_1 0) 22 t22 _ A24.out) ?_;rintro e w' ⟨rfl,⟨nd,rfl⟩⟩;refine ⟨_,rfl,?_⟩))
    (try (rw [drewN_self w30];generalize hq_:World.drewN w30 _=w30;have n0_:Aside0 (Kd.R (Kd.int .i64) 3 w30 w.heap.size (fun k_=>some k_ ≠ (.slice (some ad10) x8_1.length co28:Value).ownBlock) (.slice (some ad18) t1.length co31) t1):=⟨by rw [← hq_];exact (kr_ HO_7.out)⟩;have n1_:Aside0 (Kd.R (Kd.int .i64) 3 w30 w.heap.size (fun k_=>some k_ ≠ (.slice (some ad18) t1.length co31:Value).ownBlock) (.slice (some ad10) x8_1.length co28) x8_1):=⟨by rw [← hq_];exact (kr_ HO_8.out)⟩;have n2_:Aside0 (Below w.heap.size w w30):=⟨by rw [← hq_];exact (bw_ HB)⟩;clear HO_7 HO_8 HB hq_;have HO_7:=n0_;have HO_8:=n1_;have HB:=n2_;clear n0_ n1_ n2_))
    replace HO_7:=am_ (Kd.R_drew HO_7.out)
    replace HO_8:=am_ (Kd.R_drew HO_8.out)
    replace HB:=hd_ HB
    have p23:0≤(1:Int):=(by omega)
    have q23:1 < (x8_1.length:Int):=od_
    obtain ⟨ad23,e23,hx23_0⟩:=Kd.at_int (Kd.R_reads' HO_8.out).2.2 1 p23 q23
    obtain rfl:ad10=ad23:=(by injection e23)
    (try simp only [show (1:Int).toNat=1 from rfl,Nat.reduceMul,Nat.reduceEqDiff,Go.Addr.add,↓reduceIte] at hx23_0)
    have qi23:(1 < x8_1.length)=True:=eq_true (by omega)
    (try rw [show ((1:Int)).toNat=1 from rfl] at hx23_0)
    replace p23:=eq_true p23
    replace q23:=eq_true q23
    have p24:0≤(2:Int):=(by omega)
    have q24:2 < (x8_1.length:Int):=od_
    obtain ⟨ad24,e24,hx24_0⟩:=Kd.at_int (Kd.R_reads' HO_8.out).2.2 2 p24 q24
    obtain rfl:ad10=ad24:=(by injection e24)
    (try simp only [show (2:Int).toNat=2 from rfl,Nat.reduceMul,Nat.reduceEqDiff,Go.Addr.add,↓reduceIte] at hx24_0)
    have qi24:(2 < x8_1.length)=True:=eq_true (by omega)
    (try rw [show ((2:Int)).toNat=2 from rfl] at hx24_0)
    replace p24:=eq_true p24
    replace q24:=eq_true q24
    have p25:0≤(1:Int):=(by omega)
    have q25:1 < (x8_1.length:Int):=od_
    obtain ⟨ad25,e25,hx25_0⟩:=Kd.at_int (Kd.R_reads' HO_8.out).2.2 1 p25 q25
    obtain rfl:ad10=ad25:=(by injection e25)
    (try simp only [show (1:Int).toNat=1 from rfl,Nat.reduceMul,Nat.reduceEqDiff,Go.Addr.add,↓reduceIte] at hx25_0)
    have qi25:(1 < x8_1.length)=True:=eq_true (by omega)
    (try rw [show ((1:Int)).toNat=1 from rfl] at hx25_0)
    replace p25:=eq_true p25
    replace q25:=eq_true q25
    have p26:0≤(2:Int):=(by omega)
    have q26:2 < (x8_1.length:Int):=od_
    obtain ⟨ad26,e26,hx26_0⟩:=Kd.at_int (Kd.R_reads' HO_8.out).2.2 2 p26 q26
    obtain rfl:ad10=ad26:=(by injection e26)
    (try simp only [show (2:Int).toNat=2 from rfl,Nat.reduceMul,Nat.reduceEqDiff,Go.Addr.add,↓reduceIte] at hx26_0)
    have qi26:(2 < x8_1.length)=True:=eq_true (by omega)
    (try rw [show ((2:Int)).toNat=2 from rfl] at hx26_0)
    replace p26:=eq_true p26
    replace q26:=eq_true q26
    refine sw_ 20 (fun w'=>w'.cell? ⟨ad10.block,ad10.off+1,none⟩=some (.int .i64 (rd x8_1 1))∧w'.cell? ⟨ad10.block,ad10.off+2,none⟩=some (.int .i64 (rd x8_1 2))∧w'.cell? ⟨ad10.block,ad10.off+1,none⟩=some (.int .i64 (rd x8_1 1))∧w'.cell? ⟨ad10.block,ad10.off+2,none⟩=some (.int .i64 (rd x8_1 2))) [] spec_l2Block.tab12 spec_l2Block.bits12 ⟨hx23_0,hx24_0,hx25_0,hx26_0⟩ (fun hHeld HT_ HW_=>?_)
    generalize w30.drew=w32 at HO_7 HO_8 HB hx23_0 hx24_0 hx25_0 hx26_0 hHeld ⊢
    refine pt_ 0 79 1 ?_
    refine pt_ 1 80 3 ?_
    refine pt_ 2 81 7 ?_
    refine pt_ 5 84 39 ?_
    refine pt_ 6 85 103 ?_
    refine pt_ 7 86 231 ?_
    refine pt_ 11 90 2279 ?_
    refine pt_ 12 91 6375 ?_
    refine pt_ 14 93 22759 ?_
    refine pt_ 15 94 55527 ?_
    refine tt_ 3 82 55535 ?_
    refine pt_ 4 83 55551 ?_
    refine tt_ 8 87 55807 ?_
    refine pt_ 9 88 56319 ?_
    refine pt_ 10 89 57343 ?_
    refine tt_ 13 92 65535 ?_
    refine tt_ 16 95 131071 ?_
    refine pt_ 17 96 262143 ?_
    refine pt_ 18 97 524287 ?_
    refine pt_ 19 16 1048575 ?_
    refine dn_ ?_
    try go_wp2
    replace HO_7:=am_ (Kd.R_drew HO_7.out)
    replace HO_8:=am_ (Kd.R_drew HO_8.out)
    replace HB:=hd_ HB
    have p27:0≤(1:Int):=(by omega)
    have q27:1 < (x8_1.length:Int):=od_
    obtain ⟨ad27,e27,hx27_0⟩:=Kd.at_int (Kd.R_reads' HO_8.out).2.2 1 p27 q27
    obtain rfl:ad10=ad27:=(by injection e27)
    (try simp only [show (1:Int).toNat=1 from rfl,Nat.reduceMul,Nat.reduceEqDiff,Go.Addr.add,↓reduceIte] at hx27_0)
    have qi27:(1 < x8_1.length)=True:=eq_true (by omega)
    (try rw [show ((1:Int)).toNat=1 from rfl] at hx27_0)
    replace p27:=eq_true p27
    replace q27:=eq_true q27
    have p28:0≤(2:Int):=(by omega)
    have q28:2 < (x8_1.length:Int):=od_
    obtain ⟨ad28,e28,hx28_0⟩:=Kd.at_int (Kd.R_reads' HO_8.out).2.2 2 p28 q28
    obtain rfl:ad10=ad28:=(by injection e28)
    (try simp only [show (2:Int).toNat=2 from rfl,Nat.reduceMul,Nat.reduceEqDiff,Go.Addr.add,↓reduceIte] at hx28_0)
    have qi28:(2 < x8_1.length)=True:=eq_true (by omega)
    (try rw [show ((2:Int)).toNat=2 from rfl] at hx28_0)
    replace p28:=eq_true p28
    replace q28:=eq_true q28
    have p29:0≤(3:Int):=(by omega)
    have q29:3 < (x8_1.length:Int):=od_
    obtain ⟨ad29,e29,hx29_0⟩:=Kd.at_int (Kd.R_reads' HO_8.out).2.2 3 p29 q29
    obtain rfl:ad10=ad29:=(by injection e29)
    (try simp only [show (3:Int).toNat=3 from rfl,Nat.reduceMul,Nat.reduceEqDiff,Go.Addr.add,↓reduceIte] at hx29_0)
    have qi29:(3 < x8_1.length)=True:=eq_true (by omega)
    (try rw [show ((3:Int)).toNat=3 from rfl] at hx29_0)
    replace p29:=eq_true p29
    replace q29:=eq_true q29
    have p30:0≤(5:Int):=(by omega)
    have q30:5 < (x8_1.length:Int):=od_
    obtain ⟨ad30,e30,hx30_0⟩:=Kd.at_int (Kd.R_reads' HO_8.out).2.2 5 p30 q30
    obtain rfl:ad10=ad30:=(by injection e30)
    (try simp only [show (5:Int).toNat=5 from rfl,Nat.reduceMul,Nat.reduceEqDiff,Go.Addr.add,↓reduceIte] at hx30_0)
    have qi30:(5 < x8_1.length)=True:=eq_true (by omega)
    (try rw [show ((5:Int)).toNat=5 from rfl] at hx30_0)
    replace p30:=eq_true p30
    replace q30:=eq_true q30
    have p31:0≤(6:Int):=(by omega)
    have q31:6 < (x8_1.length:Int):=od_
    obtain ⟨ad31,e31,hx31_0⟩:=Kd.at_int (Kd.R_reads' HO_8.out).2.2 6 p31 q31
    obtain rfl:ad10=ad31:=(by injection e31)
    (try simp only [show (6:Int).toNat=6 from rfl,Nat.reduceMul,Nat.reduceEqDiff,Go.Addr.add,↓reduceIte] at hx31_0)
    have qi31:(6 < x8_1.length)=True:=eq_true (by omega)
    (try rw [show ((6:Int)).toNat=6 from rfl] at hx31_0)
    replace p31:=eq_true p31
    replace q31:=eq_true q31
    refine sw_ 26 (fun w'=>w'.cell? ⟨ad10.block,ad10.off+1,none⟩=some (.int .i64 (rd x8_1 1))∧w'.cell? ⟨ad10.block,ad10.off+2,none⟩=some (.int .i64 (rd x8_1 2))∧w'.cell? ⟨ad10.block,ad10.off+3,none⟩=some (.int .i64 (rd x8_1 3))∧w'.cell? ⟨ad10.block,ad10.off+5,none⟩=some (.int .i64 (rd x8_1 5))∧w'.cell? ⟨ad10.block,ad10.off+6,none⟩=some (.int .i64 (rd x8_1 6))) [] spec_l2Block.tab14 spec_l2Block.bits14 ⟨hx27_0,hx28_0,hx29_0,hx30_0,hx31_0⟩ (fun hHeld HT_ HW_=>?_)
    generalize w32.drew=w33 at HO_7 HO_8 HB hx27_0 hx28_0 hx29_0 hx30_0 hx31_0 hHeld ⊢
    refine pt_ 0 101 1 ?_
    refine pt_ 1 102 3 ?_
    refine pt_ 2 103 7 ?_
    refine pt_ 3 104 15 ?_
    refine pt_ 4 105 31 ?_
    refine pt_ 5 106 63 ?_
    refine pt_ 6 107 127 ?_
    refine pt_ 8 109 383 ?_
    refine pt_ 9 110 895 ?_
    refine pt_ 11 112 2943 ?_
    refine pt_ 12 113 7039 ?_
    refine pt_ 14 115 23423 ?_
    refine pt_ 17 118 154495 ?_
    refine pt_ 18 119 416639 ?_
    refine pt_ 19 120 940927 ?_
    refine pt_ 21 122 3038079 ?_
    refine pt_ 22 123 7232383 ?_
    refine tt_ 7 108 7232511 ?_
    refine tt_ 10 111 7233535 ?_
    refine tt_ 13 114 7241727 ?_
    refine pt_ 15 116 7274495 ?_
    refine pt_ 16 117 7340031 ?_
    refine tt_ 20 121 8388607 ?_
    refine tt_ 23 124 16777215 ?_
    refine oz_ 24 125 26 33554431 (fun K hK=>?_)
    refine Kd.R_lit_step (Kd.int .i64) _ 3 ?hg (N:=125) ?hd (xs:=([Go.bits .and .i64 (wrap64 ((wrap64 ((wrap64 ((wrap64 ((wrap64 ((rd x8_1 7) + (Go.bits .xor .i64 (Go.bits .xor .i64 t11 t12) t13))) + (Go.bits .xor .i64 (Go.bits .and .i64 (rd x8_1 4) (rd x8_1 5)) (Go.bits .and .i64 (Go.bits .xor .i64 4294967295 (rd x8_1 4)) (rd x8_1 6))))) + (rd l2 x9_1))) + (rd t1 x9_1))) + (wrap64 ((Go.bits .xor .i64 (Go.bits .xor .i64 t20 t21) t22) + (Go.bits .xor .i64 (Go.bits .xor .i64 (Go.bits .and .i64 (rd x8_1 0) (rd x8_1 1)) (Go.bits .and .i64 (rd x8_1 0) (rd x8_1 2))) (Go.bits .and .i64 (rd x8_1 1) (rd x8_1 2))))))) 4294967295,rd x8_1 0,rd x8_1 1,rd x8_1 2,Go.bits .and .i64 (wrap64 ((rd x8_1 3) + (wrap64 ((wrap64 ((wrap64 ((wrap64 ((rd x8_1 7) + (Go.bits .xor .i64 (Go.bits .xor .i64 t11 t12) t13))) + (Go.bits .xor .i64 (Go.bits .and .i64 (rd x8_1 4) (rd x8_1 5)) (Go.bits .and .i64 (Go.bits .xor .i64 4294967295 (rd x8_1 4)) (rd x8_1 6))))) + (rd l2 x9_1))) + (rd t1 x9_1))))) 4294967295,rd x8_1 4,rd x8_1 5,rd x8_1 6]:List Int)) (inner:=[.int .i64 (Go.bits .and .i64 (wrap64 ((wrap64 ((wrap64 ((wrap64 ((wrap64 ((rd x8_1 7) + (Go.bits .xor .i64 (Go.bits .xor .i64 t11 t12) t13))) + (Go.bits .xor .i64 (Go.bits .and .i64 (rd x8_1 4) (rd x8_1 5)) (Go.bits .and .i64 (Go.bits .xor .i64 4294967295 (rd x8_1 4)) (rd x8_1 6))))) + (rd l2 x9_1))) + (rd t1 x9_1))) + (wrap64 ((Go.bits .xor .i64 (Go.bits .xor .i64 t20 t21) t22) + (Go.bits .xor .i64 (Go.bits .xor .i64 (Go.bits .and .i64 (rd x8_1 0) (rd x8_1 1)) (Go.bits .and .i64 (rd x8_1 0) (rd x8_1 2))) (Go.bits .and .i64 (rd x8_1 1) (rd x8_1 2))))))) 4294967295),.int .i64 (rd x8_1 0),.int .i64 (rd x8_1 1),.int .i64 (rd x8_1 2),.int .i64 (Go.bits .and .i64 (wrap64 ((rd x8_1 3) + (wrap64 ((wrap64 ((wrap64 ((wrap64 ((rd x8_1 7) + (Go.bits .xor .i64 (Go.bits .xor .i64 t11 t12) t13))) + (Go.bits .xor .i64 (Go.bits .and .i64 (rd x8_1 4) (rd x8_1 5)) (Go.bits .and .i64 (Go.bits .xor .i64 4294967295 (rd x8_1 4)) (rd x8_1 6))))) + (rd l2 x9_1))) + (rd t1 x9_1))))) 4294967295),.int .i64 (rd x8_1 4),.int .i64 (rd x8_1 5),.int .i64 (rd x8_1 6)]) (ok:=fun _=>True) (okp:=fun _=>True) ?hr ?hp (fun _ hk=>hk) trivial (Below.refl _ _) (Nat.le_refl _) (by simp) ?_;(case hd=>rfl);(case hg=>rfl);(case hr=>first|(go_simp;done)|(go_simp;rfl));(case hp=>exact (Reps.one (show Kd.M (Kd.int .i64) _ _ _ (Go.bits .and .i64 (wrap64 ((wrap64 ((wrap64 ((wrap64 ((wrap64 ((rd x8_1 7) + (Go.bits .xor .i64 (Go.bits .xor .i64 t11 t12) t13))) + (Go.bits .xor .i64 (Go.bits .and .i64 (rd x8_1 4) (rd x8_1 5)) (Go.bits .and .i64 (Go.bits .xor .i64 4294967295 (rd x8_1 4)) (rd x8_1 6))))) + (rd l2 x9_1))) + (rd t1 x9_1))) + (wrap64 ((Go.bits .xor .i64 (Go.bits .xor .i64 t20 t21) t22) + (Go.bits .xor .i64 (Go.bits .xor .i64 (Go.bits .and .i64 (rd x8_1 0) (rd x8_1 1)) (Go.bits .and .i64 (rd x8_1 0) (rd x8_1 2))) (Go.bits .and .i64 (rd x8_1 1) (rd x8_1 2))))))) 4294967295) [.int .i64 (Go.bits .and .i64 (wrap64 ((wrap64 ((wrap64 ((wrap64 ((wrap64 ((rd x8_1 7) + (Go.bits .xor .i64 (Go.bits .xor .i64 t11 t12) t13))) + (Go.bits .xor .i64 (Go.bits .and .i64 (rd x8_1 4) (rd x8_1 5)) (Go.bits .and .i64 (Go.bits .xor .i64 4294967295 (rd x8_1 4)) (rd x8_1 6))))) + (rd l2 x9_1))) + (rd t1 x9_1))) + (wrap64 ((Go.bits .xor .i64 (Go.bits .xor .i64 t20 t21) t22) + (Go.bits .xor .i64 (Go.bits .xor .i64 (Go.bits .and .i64 (rd x8_1 0) (rd x8_1 1)) (Go.bits .and .i64 (rd x8_1 0) (rd x8_1 2))) (Go.bits .and .i64 (rd x8_1 1) (rd x8_1 2))))))) 4294967295)] from rfl) (Reps.one (show Kd.M (Kd.int .i64) _ _ _ (rd x8_1 0) [.int .i64 (rd x8_1 0)] from rfl) (Reps.one (show Kd.M (Kd.int .i64) _ _ _ (rd x8_1 1) [.int .i64 (rd x8_1 1)] from rfl) (Reps.one (show Kd.M (Kd.int .i64) _ _ _ (rd x8_1 2) [.int .i64 (rd x8_1 2)] from rfl) (Reps.one (show Kd.M (Kd.int .i64) _ _ _ (Go.bits .and .i64 (wrap64 ((rd x8_1 3) + (wrap64 ((wrap64 ((wrap64 ((wrap64 ((rd x8_1 7) + (Go.bits .xor .i64 (Go.bits .xor .i64 t11 t12) t13))) + (Go.bits .xor .i64 (Go.bits .and .i64 (rd x8_1 4) (rd x8_1 5)) (Go.bits .and .i64 (Go.bits .xor .i64 4294967295 (rd x8_1 4)) (rd x8_1 6))))) + (rd l2 x9_1))) + (rd t1 x9_1))))) 4294967295) [.int .i64 (Go.bits .and .i64 (wrap64 ((rd x8_1 3) + (wrap64 ((wrap64 ((wrap64 ((wrap64 ((rd x8_1 7) + (Go.bits .xor .i64 (Go.bits .xor .i64 t11 t12) t13))) + (Go.bits .xor .i64 (Go.bits .and .i64 (rd x8_1 4) (rd x8_1 5)) (Go.bits .and .i64 (Go.bits .xor .i64 4294967295 (rd x8_1 4)) (rd x8_1 6))))) + (rd l2 x9_1))) + (rd t1 x9_1))))) 4294967295)] from rfl) (Reps.one (show Kd.M (Kd.int .i64) _ _ _ (rd x8_1 4) [.int .i64 (rd x8_1 4)] from rfl) (Reps.one (show Kd.M (Kd.int .i64) _ _ _ (rd x8_1 5) [.int .i64 (rd x8_1 5)] from rfl) (Reps.one (show Kd.M (Kd.int .i64) _ _ _ (rd x8_1 6) [.int .i64 (rd x8_1 6)] from rfl) (Reps.none _ _))))))))))
    intro v33 w34 ho35 hb hg_ hnew_
    have HS0_:=(hb.cell (World.block_lt_of_cell? _ _ (hHeld.1))).trans (hHeld.1)
    have HS1_:=(hb.cell (World.block_lt_of_cell? _ _ (hHeld.2.1))).trans (hHeld.2.1)
    have HS2_:=(hb.cell (World.block_lt_of_cell? _ _ (hHeld.2.2.1))).trans (hHeld.2.2.1)
    have HS3_:=(hb.cell (World.block_lt_of_cell? _ _ (hHeld.2.2.2.1))).trans (hHeld.2.2.2.1)
    have HS4_:=(hb.cell (World.block_lt_of_cell? _ _ (hHeld.2.2.2.2))).trans (hHeld.2.2.2.2)
    clear hg_ hnew_
    (first | rw [← Ny32.out] at ho35|(simp only [Int.reduceToNat] at ho35;rw [← Ny32.out] at ho35))
    have HO34:=am_ (Kd.R_lower (Kd.R_new' (Kd.R_new' ho35 (lt_ HO_7)) (lt_ HO_8)) (sz_ HB))
    replace HO_7:=re_ HO_7 ho35 hb
    replace HO_8:=re_ HO_8 ho35 hb
    replace HB:=ss_ HB hb
    clear hb ho35
    refine hK.out _ _ ⟨HS0_,HS1_,HS2_,HS3_,HS4_⟩ (fun hHeld=>?_)
    clear hK K
    refine no_ 125 ?_
    refine pt_ 25 8 67108863 ?_
    refine dn_ ?_
    try go_wp2
    go_roundg k1
    case measure => have:=HK1.out;omega
    case rel => exact ⟨(y32),(wrap64 (x9_1+1)),e1_,H',⟨by have:=HK1.out;omega⟩,⟨kr_ (Kd.R_mono HO_7.out (fun _ hk=>hk.2))⟩,⟨kr_ (Kd.R_mono HO34.out (fun _ hk=>hk.1.2))⟩,⟨bw_ HB⟩⟩
   ·have H':=am_ H
    clear H
    go_wp2
    go_loopg [18] k1 (fun kq v18 w'=>∃ (x8_2:List Int) (x18_2:Int),v18 = .int .i64 x18_2∧Aside0 (spec_l2Block.l1 kq l0 x8_2 x18_2=some r)∧Aside0 (kq≤k1)∧Aside0 (Kd.R (Kd.int .i64) 3 w' w.heap.size (fun _=>True) u8 x8_2)∧Aside0 (Below w.heap.size w w'))
    case atStart => exact ⟨(x8_1),(0),e1_,H',⟨Nat.le_refl _⟩,⟨km_ HO_8⟩,⟨bw_ HB⟩⟩
    case round =>
     clear H'
     try clear c1
     try clear c2
     try clear p2
     try clear c10b0
     obtain ⟨x8_2,x18_2,rfl,HA,HK2,HO_8,HB⟩:=hrel
     cases gk with
     | zero=>exact absurd HA.out (by simp [spec_l2Block.l1])
     | succ k2 =>
      have H:=HA.out
      clear HA
      simp only [spec_l2Block.l1] at H
      replace H:=itd_ H;obtain ⟨c36b0,H⟩|⟨c36b0,H⟩:=H
      ·replace H:=ipd_ H;obtain ⟨c37b0,H⟩:=H
       replace H:=ipd_ H;obtain ⟨c38b0,H⟩:=H
       replace H:=ipd_ H;obtain ⟨c39b0,H⟩:=H
       obtain ⟨y37,hy37⟩:∃ y_:List Int,y_=(x8_2.set (x18_2:Int).toNat (Go.bits .and .i64 (wrap64 ((rd x8_2 x18_2) + (rd l0 x18_2))) 4294967295)):=⟨_,rfl⟩
       replace H:(spec_l2Block.l1 k2 l0 y37 (wrap64 (x18_2+1)))=some r:=yh_ hy37 H
       have Ny37:=am_ hy37
       clear hy37
       have H':=am_ H
       clear H
       try go_wp2
       replace HO_8:=am_ (Kd.R_drew HO_8.out)
       replace HB:=hd_ HB
       obtain ⟨Ao42,co42,eo42⟩:=Kd.R_slice HO_8.out
       subst eo42
       obtain ⟨ad35,e35,hx35_0,p35,q35⟩:=ai_ (Kd.R_reads' HO_8.out).2.2 x18_2
       cases e35
       have p36:0≤(x18_2:Int):=od_
       have q36:x18_2 < (l0.length:Int):=od_
       obtain ⟨ad36,e36,hx36_0⟩:=Kd.at_int HR0.out x18_2 p36 q36
       have hw36_0:=hx36_0
       cases e36
       replace hx36_0:=cw_ HB hx36_0
       replace p36:=eq_true p36
       replace q36:=eq_true q36
       have p40:0≤(x18_2:Int):=od_
       have q40:(x18_2:Int) < ((x8_2.length:Int):Int):=od_
       obtain ⟨go40,co40,eo40,gb40,gl40,cl40,HG40⟩:=Kd.R_form HO_8.out (by omega)
       (first | cases eo40|(injection eo40 with ea_ en_ ec_;(first|subst ea_|(injection ea_ with ea_;subst ea_));subst ec_;clear en_))
       have GB40:=am_ gb40
       have GG40:=am_ HG40
       clear gb40 gl40 HG40
       (first | simp only [add_plain] at hx35_0|skip)
       obtain ⟨hx40_0,hf40_0⟩:=Kd.R_celln 0 HO_8.out (x18_2:Int) p40 q40
       replace p40:=eq_true p40
       replace q40:=eq_true q40
       have HP43:=Kd.R_putn HO_8.out (x18_2:Int) (Go.bits .and .i64 (wrap64 ((rd x8_2 x18_2) + (rd l0 x18_2))) 4294967295)
       rw [← Ny37.out] at HP43
       have HQ43:=am_ HP43
       clear HP43
       refine sw_ 14 (fun w'=>w'.cell? ⟨go40,(x18_2).toNat,none⟩=some (.int .i64 (rd x8_2 x18_2))∧w'.cell? (ad36.add (x18_2).toNat)=some (.int .i64 (rd l0 x18_2))) [13] spec_l2Block.tab18 spec_l2Block.bits18 ⟨hx35_0,(cw_ HB hw36_0)⟩ (fun hHeld HT_ HW_=>?_)
       generalize wr.drew=w41 at HO_8 HB GG40 HQ43 hf40_0 hx40_0 hx35_0 hx36_0 hHeld ⊢
       refine pt_ 0 130 1 ?_
       refine pt_ 1 131 3 ?_
       refine pt_ 2 132 7 ?_
       refine pt_ 3 133 15 ?_
       refine pt_ 4 134 31 ?_
       refine pt_ 6 136 95 ?_
       refine pt_ 7 137 223 ?_
       refine pt_ 8 138 479 ?_
       refine tt_ 5 135 511 ?_
       refine tt_ 9 139 1023 ?_
       refine pt_ 10 140 2047 ?_
       refine pt_ 11 141 4095 ?_
       refine pt_ 12 142 8191 ?_
       refine last_ (i:=13) (N:=none) (lz_ 14 16383) rfl rfl (one_of HT_.out (by kernel_rfl)) (by decide) (fun K hK=>?_)
       refine skip_ (w1:=?_) (by rfl) rfl ?_ ?_
       rotate_left
       ·go_simp
        rfl
       refine hK.out _ _ ?_
       clear hK K
       refine dn_ ?_
       try go_wp2
       go_roundg k2
       case measure => have:=HK1.out;have:=HK2.out;omega
       case rel => exact ⟨(y37),(wrap64 (x18_2+1)),e1_,H',⟨by have:=HK1.out;have:=HK2.out;omega⟩,⟨kr_ HQ43.out⟩,⟨bw_ HB⟩⟩
      ·obtain rfl:=Option.some.inj H
       go_wp2
       go_ret
       exact ⟨_,e2_,kr_ HO_8.out,bw_ HB⟩
mutual
def spec_Digest.l0:Nat->List Int->List Int->List Int->Int->Option (ByteArray)
 | 0,_,_,_,_=>none
 | k+1,x3,x4,x5,x6=>if x6 < (x3.length:Int) then (if 0≤x6 then (if x6≤(wrap64 (x6+64)) then (if (wrap64 (x6+64))≤(x3.length:Int) then ((spec_l2Block.f k x4 ((x3.take ((wrap64 (x6+64)):Int).toNat).drop (x6:Int).toNat) x5).bind fun t14=>(spec_Digest.l0 k x3 t14 x5 (wrap64 (x6+64)))) else (none)) else (none)) else (none)) else (spec_Digest.l1 k x4 (([]:List Int)) 0)
def spec_Digest.l1:Nat->List Int->List Int->Int->Option (ByteArray)
 | 0,_,_,_=>none
 | k+1,x4,x7,x8=>if x8 < 8 then (if 0≤x8 then (if x8 < (x4.length:Int) then ((some (([((rd x4 x8) / 16777216) % 256,((rd x4 x8) / 65536) % 256,((rd x4 x8) / 256) % 256,(rd x4 x8) % 256]:List Int):List Int)).bind fun y24=>(if x7.length+y24.length < 140737488355328 then (spec_Digest.l1 k x4 (x7 ++ y24) (wrap64 (x8+1))) else (none))) else (none)) else (none)) else (some (strOfNums x7))
end
def spec_Digest.f (k:Nat) (l0:List Int):Option (ByteArray):=(spec_Padded.f k l0).bind fun t1=>((spec_l2K.f).bind fun t7=>(spec_Digest.l0 k t1 (([1779033703,3144134277,1013904242,2773480762,1359893119,2600822924,528734635,1541459225]:List Int)) t7 0))
def spec_Digest.T12:Bool × List (List Nat × List Nat):=(true,[([],[]),([],[]),([],[]),([1,2],[1,2]),([3],[3]),([4],[4]),([5],[5]),([],[]),([],[]),([7,8],[7,8]),([9],[9]),([10],[10]),([11],[11]),([],[]),([],[]),([13,14],[13,14]),([15],[15]),([16],[16]),([17],[17]),([],[]),([],[]),([19,20],[19,20]),([21],[21]),([22],[22]),([6,12,18,23],[6,12,18,23]),([0,24],[0,24]),([25,25,0,1,2,3,4,5,6,7,8,9,10,11,12,13,14,15,16,17,18,19,20,21,22,23,24,25],[0,25])])
def spec_Digest.B12:List Nat:=[0,0,0,6,14,30,62,0,0,384,896,1920,3968,0,0,24576,57344,122880,253952,0,0,1572864,3670016,7864320,16777214,33554431,67108863]
theorem spec_Digest.tab12:rtab .any (opsOf Tryz.f119 12)=spec_Digest.T12:=by kernel_rfl
theorem spec_Digest.bits12:waitsOk spec_Digest.T12.2 spec_Digest.B12=true:=by kernel_rfl
theorem spec_Digest.calls (k:Nat) (A0:Option Addr) (c0:Nat) (l0:List Int) (r:ByteArray) (w:World) (hr0:Kd.C (Kd.int .u8) w A0 l0.length l0) (hc0:l0.length≤c0) (h:spec_Digest.f k l0=some r) :
  Calls Tryz.prog 119 #[.slice A0 l0.length c0] w fun e w'=>e = .returned (.string r)∧Below w.heap.size w w':=by
 have HR0:=am_ hr0
 have HC0:=am_ hc0
 clear hr0 hc0
 have HB:=h0_ w
 have H:((spec_Padded.f k l0).bind fun t1=>((spec_l2K.f).bind fun t7=>(spec_Digest.l0 k t1 (([1779033703,3144134277,1013904242,2773480762,1359893119,2600822924,528734635,1541459225]:List Int)) t7 0)))=some r:=h
 clear h
 replace H:=bi_ H;obtain ⟨t1,A2,H⟩:=H
 obtain ⟨y604,hy4⟩:∃ y_:List Int,y_=(([1779033703,3144134277,1013904242,2773480762,1359893119,2600822924,528734635,1541459225]:List Int)):=⟨_,rfl⟩
 replace H:((spec_l2K.f).bind fun t7=>(spec_Digest.l0 k t1 y604 t7 0))=some r:=yh_ hy4 H
 have Ny4:=am_ hy4
 clear hy4
 replace H:=bi_ H;obtain ⟨t7,A3,H⟩:=H
 have H':=am_ H
 clear H
 go_enter Tryz.func119,Tryz.ntmps119
 go_wp2_with (first|((with_reducible refine gq_ 140 10 ?_);refine gc_ 10 Tryz.func140 (spec_Padded.calls k _ _ l0 t1 _ (cr_ HR0.out) HC0.out A2.out) ?_;rintro e w4 ⟨v2,rfl,ho0,hb⟩;refine ⟨_,rfl,?_⟩;have HO3:=rlo_ ho0 HB;replace HB:=ss_ HB hb;clear hb ho0)|((with_reducible refine gd_ 11 ?_);refine rl_ (Kd.int .i64) 3 11 ([1779033703,3144134277,1013904242,2773480762,1359893119,2600822924,528734635,1541459225]:List Int) [.int .i64 1779033703,.int .i64 3144134277,.int .i64 1013904242,.int .i64 2773480762,.int .i64 1359893119,.int .i64 2600822924,.int .i64 528734635,.int .i64 1541459225] ?_;intro v5 w5 ho6 hb hg_ hnew_;clear hg_ hnew_;(first|rw [← Ny4.out] at ho6|(simp only [Int.reduceToNat] at ho6;rw [← Ny4.out] at ho6));replace HO3:=rb_ HO3 hb;have HO6:=rlo_ ho6 HB;replace HB:=ss_ HB hb;clear hb ho6)|((with_reducible refine gq_ 141 12 ?_);refine gc_ 12 Tryz.func141 (spec_l2K.calls  t7 _ A3.out) ?_;rintro e w7 ⟨v608,rfl,ho0,hb⟩;refine ⟨_,rfl,?_⟩;replace HO3:=rb_ HO3 hb;have HO9:=am_ (Kd.R_lower (Kd.R_new' ho0 (lt_ HO6)) (sz_ HB));replace HO6:=re_ HO6 ho0 hb;replace HB:=ss_ HB hb;clear hb ho0))
 go_loopg [4,6] k (fun kq v4 v6 w'=>∃ (x4_1:List Int) (x6_1:Int),v6 = .int .i64 x6_1∧Aside0 (spec_Digest.l0 kq t1 x4_1 t7 x6_1=some r)∧Aside0 (kq≤k)∧Aside0 (Kd.R (Kd.int .u8) 5 w' w.heap.size (fun _=>True) v2 t1)∧Aside0 (Kd.R (Kd.int .i64) 3 w' w.heap.size (fun k_=>some k_ ≠ (v608:Value).ownBlock) v4 x4_1)∧Aside0 (Kd.R (Kd.int .i64) 3 w' w.heap.size (fun k_=>some k_ ≠ (v4:Value).ownBlock) v608 t7)∧Aside0 (Below w.heap.size w w'))
 case atStart => exact ⟨(y604),(0),e1_,H',⟨Nat.le_refl _⟩,⟨kr_ HO3.out⟩,⟨kr_ (Kd.R_mono HO6.out (fun _ hk=>hk.2))⟩,⟨kr_ (Kd.R_mono HO9.out (fun _ hk=>hk.2))⟩,⟨bw_ HB⟩⟩
 case round =>
  clear H'
  obtain ⟨x4_1,x6_1,rfl,HA,HK1,HO_3,HO_4,HO_5,HB⟩:=hrel
  cases gk with
  | zero=>exact absurd HA.out (by simp [spec_Digest.l0])
  | succ k1 =>
   have H:=HA.out
   clear HA
   simp only [spec_Digest.l0] at H
   replace H:=itd_ H;obtain ⟨c8b0,H⟩|⟨c8b0,H⟩:=H
   ·replace H:=ip_ H;obtain ⟨c9,H⟩:=H
    have c9b0:=eq_true c9
    have c9b1:=decide_eq_true c9
    clear c9
    replace H:=ip_ H;obtain ⟨c10,H⟩:=H
    have c10b0:=eq_true c10
    have c10b1:=decide_eq_true c10
    replace H:=ip_ H;obtain ⟨c11,H⟩:=H
    have c11b0:=eq_true c11
    have c11b1:=decide_eq_true c11
    obtain ⟨y10,hy10⟩:∃ y_:List Int,y_=((t1.take ((wrap64 (x6_1+64)):Int).toNat).drop (x6_1:Int).toNat):=⟨_,rfl⟩
    replace H:((spec_l2Block.f k1 x4_1 y10 t7).bind fun t14=>(spec_Digest.l0 k1 t1 t14 t7 (wrap64 (x6_1+64))))=some r:=yh_ hy10 H
    have Ny10:=am_ hy10
    clear hy10
    replace H:=bi_ H;obtain ⟨t14,A12,H⟩:=H
    have H':=am_ H
    clear H
    obtain ⟨Ao13,co13,eo13⟩:=Kd.R_slice HO_3.out
    subst eo13
    have q14:((wrap64 (x6_1+64)):Int)≤((t1.length:Int):Int):=od_
    obtain ⟨i014,hi014,_,hsz14,_⟩:=info_parts info5
    have hroom14:t1.length≤co13:=(cl_ HO_3)
    have hC14:Kd.C (Kd.int .u8) _ Ao13 t1.length t1:=(Kd.R_reads' HO_3.out).2.2
    have ql14:(x6_1:Int)≤((wrap64 (x6_1+64)):Int):=od_
    have q014:(0:Int)≤(x6_1:Int):=od_
    have hcut14:=cut_mid (P:=Tryz.prog) 27 5 .i64 .i64 Tryz.underlying27 hi014 1 hsz14 Ao13 t1.length co13 x6_1 (wrap64 (x6_1+64)) q014 ql14 q14 hroom14
    have hr14:=Kd.C_mid (lo:=(x6_1:Int).toNat) (hi:=((wrap64 (x6_1+64)):Int).toNat) (c:=co13) hC14 (by omega) (by omega) hroom14
    obtain ⟨A14,hA14⟩:∃ A1,A1=(if co13=(x6_1:Int).toNat then Ao13 else (Ao13:Option Addr).map (·.add ((x6_1:Int).toNat * 1))):=⟨_,rfl⟩
    obtain ⟨c14,hc14⟩:∃ c1,c1=co13 - (x6_1:Int).toNat:=⟨_,rfl⟩
    have hy14:y10.length=((wrap64 (x6_1+64)):Int).toNat - (x6_1:Int).toNat:=(by rw [Ny10.out,List.length_drop,List.length_take] <;> omega)
    rw [show ((t1).take ((wrap64 (x6_1+64)):Int).toNat).drop (x6_1:Int).toNat=y10 from Ny10.out.symm] at hr14
    replace hr14:Kd.C (Kd.int .u8) _ A14 y10.length y10:=(by rw [hA14];exact hr14)
    rw [← hy14,← hA14,← hc14] at hcut14
    have HR13:=am_ hr14
    have HC13:=am_ (show y10.length≤c14 from by rw [hy14,hc14];exact Nat.sub_le_sub_right (Nat.le_trans (by omega) hroom14) _)
    clear hr14 hC14 hroom14 hi014 hsz14 hc14
    have KY14:=am_ hy14
    have KA14:=am_ hA14
    clear hy14 hA14
    have KL14:=am_ (show ((wrap64 (x6_1+64)):Int).toNat≤t1.length from by omega)
    have KM14:=am_ (show (x6_1:Int).toNat≤((wrap64 (x6_1+64)):Int).toNat from by omega)
    replace q14:=eq_true q14
    obtain ⟨Ao15,co15,eo15⟩:=Kd.R_slice HO_4.out
    subst eo15
    obtain ⟨Ao16,co16,eo16⟩:=Kd.R_slice HO_5.out
    subst eo16
    go_wp2_with (first|((with_reducible refine gk_ 142 ?_);refine gl_ 26 Tryz.func142 #[.slice Ao15 x4_1.length co15,.slice A14 y10.length c14,.slice Ao16 t7.length co16] ?_;(with_reducible refine (spec_l2Block.calls k1 _ _ x4_1 _ _ y10 _ _ t7 t14 _ ?side1 ?side2 ?side3 ?side4 ?side5 ?side6 A12.out).mono ?_);(case side1=>exact ch_ HO_4);(case side2=>exact (cl_ HO_4));(case side3=>exact cr_ (by repeat (first|(with_reducible exact HR13.out)|(with_reducible refine Kd.C_alloc ?_ _)|(with_reducible refine Kd.C_drewN ?_ _)|(with_reducible refine Kd.C_drew ?_)|exact HR13.out)));(case side4=>exact HC13.out);(case side5=>exact ch_ HO_5);(case side6=>exact (cl_ HO_5));rintro e w17 ⟨v15,rfl,ho0,hb⟩;refine ⟨_,rfl,?_⟩;replace HO_3:=rb_ HO_3 hb;have HO16:=am_ (Kd.R_lower (Kd.R_new' (Kd.R_new' ho0 (lt_ HO_4)) (lt_ HO_5)) (sz_ HB));replace HO_4:=re_ HO_4 ho0 hb;replace HO_5:=re_ HO_5 ho0 hb;replace HR13:=am_ (Kd.C_below (by repeat (first|(with_reducible exact HR13.out)|(with_reducible refine Kd.C_alloc ?_ _)|(with_reducible refine Kd.C_drewN ?_ _)|(with_reducible refine Kd.C_drew ?_)|exact HR13.out)) hb);replace HB:=ss_ HB hb;clear hb ho0))
    go_roundg k1
    case measure => have:=HK1.out;omega
    case rel => exact ⟨(t14),(wrap64 (x6_1+64)),e1_,H',⟨by have:=HK1.out;omega⟩,⟨kr_ HO_3.out⟩,⟨kr_ (Kd.R_mono HO16.out (fun _ hk=>hk.2))⟩,⟨kr_ (Kd.R_mono HO_5.out (fun _ hk=>hk.2))⟩,⟨bw_ HB⟩⟩
   ·obtain ⟨y17,hy17⟩:∃ y_:List Int,y_=(([]:List Int)):=⟨_,rfl⟩
    replace H:(spec_Digest.l1 k1 x4_1 y17 0)=some r:=yh_ hy17 H
    have Ny17:=am_ hy17
    clear hy17
    have H':=am_ H
    clear H
    obtain ⟨Ao18,co18,eo18⟩:=Kd.R_slice HO_3.out
    subst eo18
    go_wp2_with (first|((with_reducible refine gd_ 27 ?_);refine rl_ (Kd.int .u8) 5 27 ([]:List Int) [] ?_;intro v18 w19 ho20 hb hg_ hnew_;clear hg_ hnew_;(first|rw [← Ny17.out] at ho20|(simp only [Int.reduceToNat] at ho20;rw [← Ny17.out] at ho20));replace HO_4:=rb_ HO_4 hb;replace HO_5:=rb_ HO_5 hb;have HO19:=am_ (Kd.R_lower (Kd.R_new' ho20 (lt_ HO_3)) (sz_ HB));replace HO_3:=re_ HO_3 ho20 hb;replace HB:=ss_ HB hb;clear hb ho20))
    go_loopg [7,8] k1 (fun kq v7 v8 w'=>∃ (x7_2:List Int) (x8_2:Int),v8 = .int .i64 x8_2∧Aside0 (spec_Digest.l1 kq x4_1 x7_2 x8_2=some r)∧Aside0 (kq≤k1)∧Aside0 (Kd.R (Kd.int .i64) 3 w' w.heap.size (fun _=>True) u4 x4_1)∧Aside0 (Kd.R (Kd.int .u8) 5 w' w.heap.size (fun _=>True) v7 x7_2)∧Aside0 (Below w.heap.size w w'))
    case atStart => exact ⟨(y17),(0),e1_,H',⟨Nat.le_refl _⟩,⟨km_ HO_4⟩,⟨km_ HO19⟩,⟨bw_ HB⟩⟩
    case round =>
     clear H'
     try clear c1
     try clear p2
     try clear c8b0
     obtain ⟨x7_2,x8_2,rfl,HA,HK2,HO_4,HO_7,HB⟩:=hrel
     cases gk with
     | zero=>exact absurd HA.out (by simp [spec_Digest.l1])
     | succ k2 =>
      have H:=HA.out
      clear HA
      simp only [spec_Digest.l1] at H
      replace H:=itd_ H;obtain ⟨c21b0,H⟩|⟨c21b0,H⟩:=H
      ·replace H:=ipd_ H;obtain ⟨c22b0,H⟩:=H
       replace H:=ipd_ H;obtain ⟨c23b0,H⟩:=H
       obtain ⟨y24,Ny24,H⟩:=sb_ (([((rd x4_1 x8_2) / 16777216) % 256,((rd x4_1 x8_2) / 65536) % 256,((rd x4_1 x8_2) / 256) % 256,(rd x4_1 x8_2) % 256]:List Int)) H
       replace H:=ip_ H;obtain ⟨c24,H⟩:=H
       have LMc24:=am_ c24
       clear c24
       obtain ⟨y27,hy27⟩:∃ y_:List Int,y_=(x7_2 ++ y24):=⟨_,rfl⟩
       replace H:(spec_Digest.l1 k2 x4_1 y27 (wrap64 (x8_2+1)))=some r:=yh_ hy27 H
       have Ny27:=am_ hy27
       clear hy27
       have H':=am_ H
       clear H
       try go_wp2
       replace HO_4:=am_ (Kd.R_drew HO_4.out)
       replace HO_7:=am_ (Kd.R_drew HO_7.out)
       replace HB:=hd_ HB
       obtain ⟨Ao26,co26,eo26⟩:=Kd.R_slice HO_4.out
       subst eo26
       obtain ⟨ad20,e20,hx20_0,p20,q20⟩:=ai_ (Kd.R_reads' HO_4.out).2.2 x8_2
       cases e20
       have p21:0≤(x8_2:Int):=od_
       have q21:x8_2 < (x4_1.length:Int):=od_
       obtain ⟨ad21,e21,hx21_0⟩:=Kd.at_int (Kd.R_reads' HO_4.out).2.2 x8_2 p21 q21
       obtain rfl:ad20=ad21:=(by injection e21)
       replace p21:=eq_true p21
       replace q21:=eq_true q21
       have p22:0≤(x8_2:Int):=od_
       have q22:x8_2 < (x4_1.length:Int):=od_
       obtain ⟨ad22,e22,hx22_0⟩:=Kd.at_int (Kd.R_reads' HO_4.out).2.2 x8_2 p22 q22
       obtain rfl:ad20=ad22:=(by injection e22)
       replace p22:=eq_true p22
       replace q22:=eq_true q22
       have p23:0≤(x8_2:Int):=od_
       have q23:x8_2 < (x4_1.length:Int):=od_
       obtain ⟨ad23,e23,hx23_0⟩:=Kd.at_int (Kd.R_reads' HO_4.out).2.2 x8_2 p23 q23
       obtain rfl:ad20=ad23:=(by injection e23)
       replace p23:=eq_true p23
       replace q23:=eq_true q23
       refine sw_ 27 (fun w'=>w'.cell? (ad20.add (x8_2).toNat)=some (.int .i64 (rd x4_1 x8_2))∧w'.cell? (ad20.add (x8_2).toNat)=some (.int .i64 (rd x4_1 x8_2))∧w'.cell? (ad20.add (x8_2).toNat)=some (.int .i64 (rd x4_1 x8_2))∧w'.cell? (ad20.add (x8_2).toNat)=some (.int .i64 (rd x4_1 x8_2))) [25] spec_Digest.tab12 spec_Digest.bits12 ⟨hx20_0,hx21_0,hx22_0,hx23_0⟩ (fun hHeld HT_ HW_=>?_)
       generalize wr.drew=w25 at HO_4 HO_7 HB hx20_0 hx21_0 hx22_0 hx23_0 hHeld ⊢
       refine pt_ 0 32 1 ?_
       refine pt_ 1 33 3 ?_
       refine pt_ 2 34 7 ?_
       refine pt_ 3 35 15 ?_
       refine pt_ 7 39 143 ?_
       refine pt_ 8 40 399 ?_
       refine pt_ 9 41 911 ?_
       refine pt_ 13 45 9103 ?_
       refine pt_ 14 46 25487 ?_
       refine pt_ 15 47 58255 ?_
       refine pt_ 19 51 582543 ?_
       refine pt_ 20 52 1631119 ?_
       refine pt_ 21 53 3728271 ?_
       refine tt_ 4 36 3728287 ?_
       refine pt_ 5 37 3728319 ?_
       refine pt_ 6 38 3728383 ?_
       refine tt_ 10 42 3729407 ?_
       refine pt_ 11 43 3731455 ?_
       refine pt_ 12 44 3735551 ?_
       refine tt_ 16 48 3801087 ?_
       refine pt_ 17 49 3932159 ?_
       refine pt_ 18 50 4194303 ?_
       refine tt_ 22 54 8388607 ?_
       refine pt_ 23 55 16777215 ?_
       refine oz_ 24 56 27 33554431 (fun K hK=>?_)
       refine Kd.R_lit_step (Kd.int .u8) _ 5 ?hg (N:=56) ?hd (xs:=([((rd x4_1 x8_2) / 16777216) % 256,((rd x4_1 x8_2) / 65536) % 256,((rd x4_1 x8_2) / 256) % 256,(rd x4_1 x8_2) % 256]:List Int)) (inner:=[.int .u8 (((rd x4_1 x8_2) / 16777216) % 256),.int .u8 (((rd x4_1 x8_2) / 65536) % 256),.int .u8 (((rd x4_1 x8_2) / 256) % 256),.int .u8 ((rd x4_1 x8_2) % 256)]) (ok:=fun _=>True) (okp:=fun _=>True) ?hr ?hp (fun _ hk=>hk) trivial (Below.refl _ _) (Nat.le_refl _) (by simp) ?_;(case hd=>rfl);(case hg=>rfl);(case hr=>first|(go_simp;done)|(go_simp;rfl));(case hp=>exact (Reps.one (show Kd.M (Kd.int .u8) _ _ _ (((rd x4_1 x8_2) / 16777216) % 256) [.int .u8 (((rd x4_1 x8_2) / 16777216) % 256)] from rfl) (Reps.one (show Kd.M (Kd.int .u8) _ _ _ (((rd x4_1 x8_2) / 65536) % 256) [.int .u8 (((rd x4_1 x8_2) / 65536) % 256)] from rfl) (Reps.one (show Kd.M (Kd.int .u8) _ _ _ (((rd x4_1 x8_2) / 256) % 256) [.int .u8 (((rd x4_1 x8_2) / 256) % 256)] from rfl) (Reps.one (show Kd.M (Kd.int .u8) _ _ _ ((rd x4_1 x8_2) % 256) [.int .u8 ((rd x4_1 x8_2) % 256)] from rfl) (Reps.none _ _))))))
       intro v25 w27 ho28 hb hg_ hnew_
       have HS0_:=(hb.cell (World.block_lt_of_cell? _ _ (hHeld.1))).trans (hHeld.1)
       have HS1_:=(hb.cell (World.block_lt_of_cell? _ _ (hHeld.2.1))).trans (hHeld.2.1)
       have HS2_:=(hb.cell (World.block_lt_of_cell? _ _ (hHeld.2.2.1))).trans (hHeld.2.2.1)
       have HS3_:=(hb.cell (World.block_lt_of_cell? _ _ (hHeld.2.2.2))).trans (hHeld.2.2.2)
       clear hg_ hnew_
       (first | rw [← Ny24.out] at ho28|(simp only [Int.reduceToNat] at ho28;rw [← Ny24.out] at ho28))
       replace HO_4:=rb_ HO_4 hb
       have HO26:=am_ (Kd.R_lower (Kd.R_new' ho28 (lt_ HO_7)) (sz_ HB))
       replace HO_7:=re_ HO_7 ho28 hb
       replace HB:=ss_ HB hb
       clear hb ho28
       obtain ⟨Ao30,co30,eo30⟩:=Kd.R_slice HO26.out
       subst eo30
       refine hK.out _ _ ⟨HS0_,HS1_,HS2_,HS3_⟩ (fun hHeld=>?_)
       clear hK K
       refine no_ 56 ?_
       refine last_ (i:=25) (N:=some 57) (lz_ 27 67108863) rfl rfl (one_of HT_.out (by kernel_rfl)) (by decide) (fun K hK=>?_)
       refine Kd.R_append_rows_step (Kd.int .u8) (w0:=w) w.heap.size (by rfl) (.tmp 32) (.tmp 56) 27 5 (.int .u8 0) 1 rfl Tryz.underlying27 info5 rfl (by decide) (by omega) u7 x7_2 y24 _ _ _ (fun k_=>some k_ ≠ (.slice Ao30 y24.length co30:Value).ownBlock) (fun _=>False) rfl rfl ?aO ?aR (fun _ _ h=>h) (fun _ h=>h.elim) ?aF ?aB ?aS ?aL ?_
       (case aR=>repeat (first|exact (Kd.R_reads' HO26.out).2.2|(with_reducible refine Kd.C_alloc ?_ _)|(with_reducible refine Kd.C_drewN ?_ _)|(with_reducible refine Kd.C_drew ?_)))
       (case aB=>exact (bw_ HB))
       (case aF=>exact (fun k_ hk=>Kd.fresh' (lt_ HO26) k_ hk))
       (case aO=>exact (kr_ (Kd.R_mono HO_7.out (fun _ hk=>hk.2))))
       (case aS=>exact (sz_ HB))
       (case aL=>have:=LMc24.out;omega)
       intro v28 w29 ho hb hg hat
       rw [← Ny27.out] at ho
       replace HO_4:=am_ (Kd.R_over' (kr_ HO_4.out) (Kd.R_typed (kr_ HO_7.out)) (by decide) hg)
       replace HO26:=am_ (Kd.R_after (ok:=(fun _=>True)) (kr_ HO26.out) hg hat)
       replace HB:=am_ hb
       have HO29:=am_ ho
       clear HO_7
       clear ho hb hg hat
       refine hK.out _ _ ?_
       clear hK K
       refine no_ 57 ?_
       refine pt_ 26 7 134217727 ?_
       refine dn_ ?_
       try go_wp2
       go_roundg k2
       case measure => have:=HK1.out;have:=HK2.out;omega
       case rel => exact ⟨(y27),(wrap64 (x8_2+1)),e1_,H',⟨by have:=HK1.out;have:=HK2.out;omega⟩,⟨kr_ HO_4.out⟩,⟨km_ HO29⟩,⟨bw_ HB⟩⟩
      ·obtain rfl:=Option.some.inj H
       have hcv31:=own_string (P:=Tryz.prog) Tryz.underlying27 Tryz.underlying5 Tryz.underlying9 (Kd.own_of_R HO_7.out)
       go_wp2
       go_ret
       exact ⟨e2_,bw_ HB⟩
def spec_NodeHash.f (k:Nat) (a0:ByteArray) (a1:ByteArray):Option (ByteArray):=(some (([1]:List Int):List Int)).bind fun y601=>(if y601.length+a0.size < 140737488355328 then ((some (y601 ++ bytesOf a0:List Int)).bind fun y604=>(if y604.length+a1.size < 140737488355328 then ((spec_Digest.f k (y604 ++ bytesOf a1)).bind fun t10=>(some t10)) else (none))) else (none))
theorem spec_NodeHash.calls (k:Nat) (a0:ByteArray) (a1:ByteArray) (r:ByteArray) (w:World) (h:spec_NodeHash.f k a0 a1=some r) :
  Calls Tryz.prog 162 #[.string a0,.string a1] w fun e w'=>e = .returned (.string r)∧Below w.heap.size w w':=by
 have HB:=h0_ w
 have H:((some (([1]:List Int):List Int)).bind fun y601=>(if y601.length+a0.size < 140737488355328 then ((some (y601 ++ bytesOf a0:List Int)).bind fun y604=>(if y604.length+a1.size < 140737488355328 then ((spec_Digest.f k (y604 ++ bytesOf a1)).bind fun t10=>(some t10)) else (none))) else (none)))=some r:=h
 clear h
 obtain ⟨y601,Ny1,H⟩:=sb_ (([1]:List Int)) H
 replace H:=ip_ H;obtain ⟨c3,H⟩:=H
 have LMc3:=am_ c3
 clear c3
 obtain ⟨y604,Ny4,H⟩:=sb_ (y601 ++ bytesOf a0) H
 replace H:=ip_ H;obtain ⟨c4,H⟩:=H
 have LMc4:=am_ c4
 clear c4
 obtain ⟨y607,hy7⟩:∃ y_:List Int,y_=(y604 ++ bytesOf a1):=⟨_,rfl⟩
 replace H:((spec_Digest.f k y607).bind fun t10=>(some t10))=some r:=yh_ hy7 H
 have Ny7:=am_ hy7
 clear hy7
 replace H:=bi_ H;obtain ⟨t10,A5,H⟩:=H
 obtain rfl:=Option.some.inj H
 go_enter Tryz.func162,Tryz.ntmps162
 go_wp2_with (first|((with_reducible refine gd_ 5 ?_);refine rl_ (Kd.int .u8) 5 5 ([1]:List Int) [.int .u8 1] ?_;intro v2 w6 ho7 hb hg_ hnew_;clear hg_ hnew_;(first|rw [← Ny1.out] at ho7|(simp only [Int.reduceToNat] at ho7;rw [← Ny1.out] at ho7));have HO3:=rlo_ ho7 HB;replace HB:=ss_ HB hb;clear hb ho7)|(at_builtin;refine print_append_str (w0:=w) w.heap.size rfl (.tmp 5) _ 27 9 5 rfl Tryz.underlying27 Tryz.underlying9 info5 v2 y601 a0 rfl rfl ?aO ?aB ?aS ?aL ?_;(case aB=>exact (bw_ HB));(case aO=>exact (Kd.own_of_R (kr_ HO3.out)));(case aS=>exact (sz_ HB));(case aL=>have:=LMc3.out;omega);intro v5 w8 ho0 hb hg;have ho:=Kd.R_of_own (h1:=fun _=>rfl) (ok:=fun _=>True) ho0 (fun _ _=>trivial);clear ho0;have hat:=True.intro;rw [← Ny4.out] at ho;change Kd.R (Kd.int .u8) 5 w8 w.heap.size (fun _=>True) v5 y604 at ho;replace HB:=am_ hb;have HO6:=am_ ho;clear HO3;clear ho hb hg hat)|(at_builtin;refine print_append_str (w0:=w) w.heap.size rfl (.tmp 7) _ 27 9 5 rfl Tryz.underlying27 Tryz.underlying9 info5 v5 y604 a1 rfl rfl ?aO ?aB ?aS ?aL ?_;(case aB=>exact (bw_ HB));(case aO=>exact (Kd.own_of_R (kr_ HO6.out)));(case aS=>exact (sz_ HB));(case aL=>have:=LMc4.out;omega);intro v8 w9 ho0 hb hg;have ho:=Kd.R_of_own (h1:=fun _=>rfl) (ok:=fun _=>True) ho0 (fun _ _=>trivial);clear ho0;have hat:=True.intro;rw [← Ny7.out] at ho;change Kd.R (Kd.int .u8) 5 w9 w.heap.size (fun _=>True) v8 y607 at ho;replace HB:=am_ hb;have HO9:=am_ ho;clear HO6;clear ho hb hg hat;obtain ⟨Ao10,co10,eo10⟩:=Kd.R_slice HO9.out;subst eo10)|((with_reducible refine gq_ 119 10 ?_);refine gc_ 10 Tryz.func119 (spec_Digest.calls k _ _ y607 t10 _ (ch_ HO9) (cl_ HO9) A5.out) ?_;rintro e w11 ⟨rfl,hb⟩;refine ⟨_,rfl,?_⟩;replace HO9:=rb_ HO9 hb;replace HB:=ss_ HB hb;clear hb))
 go_ret
 exact ⟨e2_,bw_ HB⟩
def spec_LeafHash.f (k:Nat) (a0:ByteArray):Option (ByteArray):=(some (([0]:List Int):List Int)).bind fun y601=>(if y601.length+a0.size < 140737488355328 then ((spec_Digest.f k (y601 ++ bytesOf a0)).bind fun t7=>(some t7)) else (none))
theorem spec_LeafHash.calls (k:Nat) (a0:ByteArray) (r:ByteArray) (w:World) (h:spec_LeafHash.f k a0=some r) :
  Calls Tryz.prog 160 #[.string a0] w fun e w'=>e = .returned (.string r)∧Below w.heap.size w w':=by
 have HB:=h0_ w
 have H:((some (([0]:List Int):List Int)).bind fun y601=>(if y601.length+a0.size < 140737488355328 then ((spec_Digest.f k (y601 ++ bytesOf a0)).bind fun t7=>(some t7)) else (none)))=some r:=h
 clear h
 obtain ⟨y601,Ny1,H⟩:=sb_ (([0]:List Int)) H
 replace H:=ip_ H;obtain ⟨c2,H⟩:=H
 have LMc2:=am_ c2
 clear c2
 obtain ⟨y604,hy4⟩:∃ y_:List Int,y_=(y601 ++ bytesOf a0):=⟨_,rfl⟩
 replace H:((spec_Digest.f k y604).bind fun t7=>(some t7))=some r:=yh_ hy4 H
 have Ny4:=am_ hy4
 clear hy4
 replace H:=bi_ H;obtain ⟨t7,A3,H⟩:=H
 obtain rfl:=Option.some.inj H
 go_enter Tryz.func160,Tryz.ntmps160
 go_wp2_with (first|((with_reducible refine gd_ 3 ?_);refine rl_ (Kd.int .u8) 5 3 ([0]:List Int) [.int .u8 0] ?_;intro v2 w4 ho5 hb hg_ hnew_;clear hg_ hnew_;(first|rw [← Ny1.out] at ho5|(simp only [Int.reduceToNat] at ho5;rw [← Ny1.out] at ho5));have HO3:=rlo_ ho5 HB;replace HB:=ss_ HB hb;clear hb ho5)|(at_builtin;refine print_append_str (w0:=w) w.heap.size rfl (.tmp 3) _ 27 9 5 rfl Tryz.underlying27 Tryz.underlying9 info5 v2 y601 a0 rfl rfl ?aO ?aB ?aS ?aL ?_;(case aB=>exact (bw_ HB));(case aO=>exact (Kd.own_of_R (kr_ HO3.out)));(case aS=>exact (sz_ HB));(case aL=>have:=LMc2.out;omega);intro v5 w6 ho0 hb hg;have ho:=Kd.R_of_own (h1:=fun _=>rfl) (ok:=fun _=>True) ho0 (fun _ _=>trivial);clear ho0;have hat:=True.intro;rw [← Ny4.out] at ho;change Kd.R (Kd.int .u8) 5 w6 w.heap.size (fun _=>True) v5 y604 at ho;replace HB:=am_ hb;have HO6:=am_ ho;clear HO3;clear ho hb hg hat;obtain ⟨Ao7,co7,eo7⟩:=Kd.R_slice HO6.out;subst eo7)|((with_reducible refine gq_ 119 6 ?_);refine gc_ 6 Tryz.func119 (spec_Digest.calls k _ _ y604 t7 _ (ch_ HO6) (cl_ HO6) A3.out) ?_;rintro e w8 ⟨rfl,hb⟩;refine ⟨_,rfl,?_⟩;replace HO6:=rb_ HO6 hb;replace HB:=ss_ HB hb;clear hb))
 go_ret
 exact ⟨e2_,bw_ HB⟩
def impl_half.l0:Nat->Int->Int->Option (Int)
 | 0,_,_=>none
 | k+1,x0,x3=>if (wrap64 (2 * x3)) < x0 then (impl_half.l0 k x0 (wrap64 (x3 * 2))) else (some x3)
def impl_half.f (k:Nat) (a0:Int):Option (Int):=impl_half.l0 k a0 1
theorem impl_half.calls (k:Nat) (a0:Int) (r:Int) (w:World) (h:impl_half.f k a0=some r) :
  Calls Tryz.prog 135 #[.int .i64 a0] w fun e w'=>e = .returned (.int .i64 r)∧Below w.heap.size w w':=by
 have HB:=h0_ w
 have H:(impl_half.l0 k a0 1)=some r:=h
 clear h
 have H':=am_ H
 clear H
 go_enter Tryz.func135,Tryz.ntmps135
 go_wp2
 go_loopg [3] k (fun kq v3 w'=>∃ (x3_1:Int),v3 = .int .i64 x3_1∧Aside0 (impl_half.l0 kq a0 x3_1=some r)∧Aside0 (kq≤k)∧Aside0 (Below w.heap.size w w'))
 case atStart => exact ⟨(1),e1_,H',⟨Nat.le_refl _⟩,⟨bw_ HB⟩⟩
 case round =>
  clear H'
  obtain ⟨x3_1,rfl,HA,HK1,HB⟩:=hrel
  cases gk with
  | zero=>exact absurd HA.out (by simp [impl_half.l0])
  | succ k1 =>
   have H:=HA.out
   clear HA
   simp only [impl_half.l0] at H
   replace H:=itd_ H;obtain ⟨c2b0,H⟩|⟨c2b0,H⟩:=H
   ·have H':=am_ H
    clear H
    go_wp2
    go_roundg k1
    case measure => have:=HK1.out;omega
    case rel => exact ⟨(wrap64 (x3_1 * 2)),e1_,H',⟨by have:=HK1.out;omega⟩,⟨bw_ HB⟩⟩
   ·obtain rfl:=Option.some.inj H
    go_wp2
    go_ret
    exact ⟨e2_,bw_ HB⟩
def spec_l6Half.l0:Nat->Int->Int->Option (Int)
 | 0,_,_=>none
 | k+1,x0,x3=>if (wrap64 (2 * x3)) < x0 then (spec_l6Half.l0 k x0 (wrap64 (2 * x3))) else (some x3)
def spec_l6Half.f (k:Nat) (a0:Int):Option (Int):=spec_l6Half.l0 k a0 1
theorem spec_l6Half.calls (k:Nat) (a0:Int) (r:Int) (w:World) (h:spec_l6Half.f k a0=some r) :
  Calls Tryz.prog 161 #[.int .i64 a0] w fun e w'=>e = .returned (.int .i64 r)∧Below w.heap.size w w':=by
 have HB:=h0_ w
 have H:(spec_l6Half.l0 k a0 1)=some r:=h
 clear h
 have H':=am_ H
 clear H
 go_enter Tryz.func161,Tryz.ntmps161
 go_wp2
 go_loopg [3] k (fun kq v3 w'=>∃ (x3_1:Int),v3 = .int .i64 x3_1∧Aside0 (spec_l6Half.l0 kq a0 x3_1=some r)∧Aside0 (kq≤k)∧Aside0 (Below w.heap.size w w'))
 case atStart => exact ⟨(1),e1_,H',⟨Nat.le_refl _⟩,⟨bw_ HB⟩⟩
 case round =>
  clear H'
  obtain ⟨x3_1,rfl,HA,HK1,HB⟩:=hrel
  cases gk with
  | zero=>exact absurd HA.out (by simp [spec_l6Half.l0])
  | succ k1 =>
   have H:=HA.out
   clear HA
   simp only [spec_l6Half.l0] at H
   replace H:=itd_ H;obtain ⟨c2b0,H⟩|⟨c2b0,H⟩:=H
   ·have H':=am_ H
    clear H
    go_wp2
    go_roundg k1
    case measure => have:=HK1.out;omega
    case rel => exact ⟨(wrap64 (2 * x3_1)),e1_,H',⟨by have:=HK1.out;omega⟩,⟨bw_ HB⟩⟩
   ·obtain rfl:=Option.some.inj H
    go_wp2
    go_ret
    exact ⟨e2_,bw_ HB⟩
mutual
def spec_PutNum.j0:Nat->Int->List Int->Option (List Int)
 | 0,_,_=>none
 | k+1,x1,x5=>if x1 < 0 then (spec_PutNum.j1 k 0 x5) else (spec_PutNum.j1 k x1 x5)
def spec_PutNum.j1:Nat->Int->List Int->Option (List Int)
 | 0,_,_=>none
 | k+1,x1,x5=>spec_PutNum.l0 k x1 x5
def spec_PutNum.l0:Nat->Int->List Int->Option (List Int)
 | 0,_,_=>none
 | k+1,x1,x5=>if x1 > 127 then (if x5.length < 140737488355328 then (spec_PutNum.l0 k (x1 / 128) (x5 ++ [(Go.bits .or .i64 (Go.bits .and .i64 x1 127) 128) % 256])) else (none)) else (if x5.length < 140737488355328 then (some (x5 ++ [(x1) % 256])) else (none))
end
def spec_PutNum.f (k:Nat) (l0:List Int) (a1:Int):Option (List Int):=(some (([]:List Int):List Int)).bind fun y601=>(if y601.length+l0.length < 140737488355328 then ((some (y601 ++ l0:List Int)).bind fun y604=>(if a1 > 1000000000 then (spec_PutNum.j0 k 1000000000 y604) else (spec_PutNum.j0 k a1 y604))) else (none))
theorem spec_PutNum.calls (k:Nat) (A0:Option Addr) (c0:Nat) (l0:List Int) (a1:Int) (r:List Int) (w:World) (hr0:Kd.C (Kd.int .u8) w A0 l0.length l0) (hc0:l0.length≤c0) (h:spec_PutNum.f k l0 a1=some r) :
  Calls Tryz.prog 168 #[.slice A0 l0.length c0,.int .i64 a1] w fun e w'=>∃ v0_:Value,e = .returned (v0_)∧Kd.R (Kd.int .u8) 5 w' w.heap.size (fun _=>True) v0_ r∧Below w.heap.size w w':=by
 have HR0:=am_ hr0
 have HC0:=am_ hc0
 clear hr0 hc0
 have HB:=h0_ w
 have H:((some (([]:List Int):List Int)).bind fun y601=>(if y601.length+l0.length < 140737488355328 then ((some (y601 ++ l0:List Int)).bind fun y604=>(if a1 > 1000000000 then (spec_PutNum.j0 k 1000000000 y604) else (spec_PutNum.j0 k a1 y604))) else (none)))=some r:=h
 clear h
 obtain ⟨y601,Ny1,H⟩:=sb_ (([]:List Int)) H
 replace H:=ip_ H;obtain ⟨c3,H⟩:=H
 have LMc3:=am_ c3
 clear c3
 obtain ⟨y604,Ny4,H⟩:=sb_ (y601 ++ l0) H
 have HC4:=am_ H
 clear H
 go_enter Tryz.func168,Tryz.ntmps168
 go_upto_if 10 with (first|((with_reducible refine gd_ 6 ?_);refine rl_ (Kd.int .u8) 5 6 ([]:List Int) [] ?_;intro v2 w5 ho6 hb hg_ hnew_;clear hg_ hnew_;(first|rw [← Ny1.out] at ho6|(simp only [Int.reduceToNat] at ho6;rw [← Ny1.out] at ho6));have HO3:=rlo_ ho6 HB;replace HB:=ss_ HB hb;clear hb ho6)|((with_reducible refine gate_builtin (b:=.append) (xs:=#[.tmp 6,.tmp 7]) rfl ?_);at_builtin;refine Kd.R_append_rows (Kd.int .u8) (w0:=w) w.heap.size rfl (.tmp 6) (.tmp 7) 27 5 (.int .u8 0) 1 rfl Tryz.underlying27 info5 rfl (by decide) (by omega) v2 y601 l0 _ _ _ (fun _=>True) (fun _=>False) rfl rfl ?aO ?aR (fun _ _ h=>h) (fun _ h=>h.elim) ?aF ?aB ?aS ?aL ?_;(case aR=>exact cb_ HR0 HB);(case aB=>exact (bw_ HB));(case aF=>exact (fun _ _=>trivial));(case aO=>exact (kr_ HO3.out));(case aS=>exact (sz_ HB));(case aL=>have:=LMc3.out;omega);intro v605 w7 ho hb hg hat;rw [← Ny4.out] at ho;replace HB:=am_ hb;have HO6:=am_ ho;clear HO3;clear ho hb hg hat))
 (try simp only [Act.put,List.setIfInBounds_toArray,List.set_cons_zero,List.set_cons_succ])
 go_cut [1] (fun v1 wc=>∃ (kq:Nat) (x1_3:Int),v1 = .int .i64 x1_3∧Aside0 (spec_PutNum.j0 kq x1_3 y604=some r)∧Aside0 (kq≤k)∧Aside0 (Kd.R (Kd.int .u8) 5 wc w.heap.size (fun _=>True) v605 y604)∧Aside0 (Below w.heap.size w wc))
 case first =>
  have H:=HC4.out
  clear HC4
  replace H:=it_ H;obtain ⟨c8,H⟩|⟨c8,H⟩:=H
  ·have c8b0:decide (1000000000 < a1)=true:=decide_eq_true c8
   clear c8
   (first | rw [c8b0]|(simp only [i64_w,i32_w];rw [c8b0])|skip)
   have H':=am_ H
   clear H
   go_wp2
   go_meet
   case rel => exact ⟨_,(1000000000),e1_,H',⟨le_⟩,⟨kr_ HO6.out⟩,⟨bw_ HB⟩⟩
  ·have c8b0:decide (1000000000 < a1)=false:=decide_eq_false c8
   clear c8
   (first | rw [c8b0]|(simp only [i64_w,i32_w];rw [c8b0])|skip)
   have H':=am_ H
   clear H
   go_wp2
   go_meet
   case rel => exact ⟨_,(a1),e1_,H',⟨le_⟩,⟨kr_ HO6.out⟩,⟨bw_ HB⟩⟩
 case rest =>
  clear HC4
  try clear c3
  obtain ⟨kq,x1_3,rfl,HA,HJ3,HO_5,HB⟩:=hcut
  cases kq with
  | zero=>exact absurd HA.out (by simp [spec_PutNum.j0])
  | succ kj3 =>
   have H:=HA.out
   clear HA
   simp only [spec_PutNum.j0] at H
   have HC9:=am_ H
   clear H
   go_upto_if 12 with (fail)
   go_cut [1] (fun v1 wc=>∃ (kq:Nat) (x1_8:Int),v1 = .int .i64 x1_8∧Aside0 (spec_PutNum.j1 kq x1_8 y604=some r)∧Aside0 (kq≤kj3)∧Aside0 (Kd.R (Kd.int .u8) 5 wc w.heap.size (fun _=>True) v605 y604)∧Aside0 (Below w.heap.size w wc))
   case first =>
    have H:=HC9.out
    clear HC9
    replace H:=itd_ H;obtain ⟨c10b0,H⟩|⟨c10b0,H⟩:=H
    ·(first | rw [c10b0]|(simp only [i64_w,i32_w];rw [c10b0])|skip)
     have H':=am_ H
     clear H
     go_wp2
     go_meet
     case rel => exact ⟨_,(0),e1_,H',⟨by have:=HJ3.out;first|omega|exact Nat.le_refl _⟩,⟨kr_ HO_5.out⟩,⟨bw_ HB⟩⟩
    ·(first | rw [c10b0]|(simp only [i64_w,i32_w];rw [c10b0])|skip)
     have H':=am_ H
     clear H
     go_wp2
     go_meet
     case rel => exact ⟨_,(x1_3),e1_,H',⟨by have:=HJ3.out;first|omega|exact Nat.le_refl _⟩,⟨kr_ HO_5.out⟩,⟨bw_ HB⟩⟩
   case rest =>
    clear HC9
    try clear c1
    try clear p2
    try clear c3
    try clear c8
    try clear c8b0
    obtain ⟨kq,x1_8,rfl,HA,HJ8,HO_5,HB⟩:=hcut
    cases kq with
    | zero=>exact absurd HA.out (by simp [spec_PutNum.j1])
    | succ kj8 =>
     have H:=HA.out
     clear HA
     simp only [spec_PutNum.j1] at H
     have H':=am_ H
     clear H
     go_wp2
     go_loopg [1,5] kj8 (fun kq v1 v5 w'=>∃ (x1_3:Int) (x5_3:List Int),v1 = .int .i64 x1_3∧Aside0 (spec_PutNum.l0 kq x1_3 x5_3=some r)∧Aside0 (kq≤kj8)∧Aside0 (Kd.R (Kd.int .u8) 5 w' w.heap.size (fun _=>True) v5 x5_3)∧Aside0 (Below w.heap.size w w'))
     case atStart => exact ⟨(x1_8),(y604),e1_,H',⟨Nat.le_refl _⟩,⟨kr_ HO_5.out⟩,⟨bw_ HB⟩⟩
     case round =>
      clear H'
      try clear c1
      try clear p2
      try clear c3
      try clear c8
      try clear c8b0
      try clear c10
      try clear c10b0
      obtain ⟨x1_3,x5_3,rfl,HA,HK3,HO_5,HB⟩:=hrel
      cases gk with
      | zero=>exact absurd HA.out (by simp [spec_PutNum.l0])
      | succ k3 =>
       have H:=HA.out
       clear HA
       simp only [spec_PutNum.l0] at H
       replace H:=it_ H;obtain ⟨c11,H⟩|⟨c11,H⟩:=H
       ·have c11b0:decide (127 < x1_3)=true:=decide_eq_true c11
        clear c11
        replace H:=ip_ H;obtain ⟨c12,H⟩:=H
        have LMc12:=am_ c12
        clear c12
        obtain ⟨y607,hy7⟩:∃ y_:List Int,y_=(x5_3 ++ [(Go.bits .or .i64 (Go.bits .and .i64 x1_3 127) 128) % 256]):=⟨_,rfl⟩
        replace H:(spec_PutNum.l0 k3 (x1_3 / 128) y607)=some r:=yh_ hy7 H
        have Ny7:=am_ hy7
        clear hy7
        have H':=am_ H
        clear H
        go_wp2_with (first|((with_reducible refine gate_builtin (b:=.append) (xs:=#[.tmp 15,.tmp 20]) rfl ?_);at_builtin;refine Kd.R_append (Kd.int .u8) (w0:=w) w.heap.size rfl (.tmp 15) (.tmp 20) 27 5 (.int .u8 0) 1 rfl Tryz.underlying27 info5 rfl (by decide) (by omega) u5 x5_3 ((Go.bits .or .i64 (Go.bits .and .i64 x1_3 127) 128) % 256) [.int .u8 ((Go.bits .or .i64 (Go.bits .and .i64 x1_3 127) 128) % 256)] (fun _=>True) (fun _=>False) rfl rfl ?aP (fun _ hk=>hk.elim) ?aF ?aO ?aB ?aS ?aL ?_;(case aP=>exact rfl);(case aB=>exact (bw_ HB));(case aF=>exact (fun _ _=>trivial));(case aO=>exact (kr_ HO_5.out));(case aS=>exact (sz_ HB));(case aL=>have:=LMc12.out;omega);intro v8 w13 ho hb hg hat;rw [← Ny7.out] at ho;replace HB:=am_ hb;have HO9:=am_ ho;clear HO_5;clear ho hb hg hat))
        go_roundg k3
        case measure => have:=HJ3.out;have:=HJ8.out;have:=HK3.out;omega
        case rel => exact ⟨(x1_3 / 128),(y607),e1_,H',⟨by have:=HJ3.out;have:=HJ8.out;have:=HK3.out;omega⟩,⟨kr_ HO9.out⟩,⟨bw_ HB⟩⟩
       ·have c11b0:decide (127 < x1_3)=false:=decide_eq_false c11
        clear c11
        replace H:=ip_ H;obtain ⟨c14,H⟩:=H
        have LMc14:=am_ c14
        clear c14
        obtain ⟨y10,hy10⟩:∃ y_:List Int,y_=(x5_3 ++ [(x1_3) % 256]):=⟨_,rfl⟩
        replace H:(some y10)=some r:=yh_ hy10 H
        have Ny10:=am_ hy10
        clear hy10
        obtain rfl:=Option.some.inj H
        go_wp2_with (first|((with_reducible refine gate_builtin (b:=.append) (xs:=#[.tmp 24,.tmp 27]) rfl ?_);at_builtin;refine Kd.R_append (Kd.int .u8) (w0:=w) w.heap.size rfl (.tmp 24) (.tmp 27) 27 5 (.int .u8 0) 1 rfl Tryz.underlying27 info5 rfl (by decide) (by omega) u5 x5_3 ((x1_3) % 256) [.int .u8 ((x1_3) % 256)] (fun _=>True) (fun _=>False) rfl rfl ?aP (fun _ hk=>hk.elim) ?aF ?aO ?aB ?aS ?aL ?_;(case aP=>exact rfl);(case aB=>exact (bw_ HB));(case aF=>exact (fun _ _=>trivial));(case aO=>exact (kr_ HO_5.out));(case aS=>exact (sz_ HB));(case aL=>have:=LMc14.out;omega);intro v11 w15 ho hb hg hat;rw [← Ny10.out] at ho;replace HB:=am_ hb;have HO12:=am_ ho;clear HO_5;clear ho hb hg hat))
        go_ret
        exact ⟨_,e2_,kr_ HO12.out,bw_ HB⟩
def impl_putNum.l0:Nat->List Int->Int->Option (List Int)
 | 0,_,_=>none
 | k+1,x0,x1=>if x1 > 127 then (if x0.length < 140737488355328 then (impl_putNum.l0 k (x0 ++ [(Go.bits .or .i64 128 (Go.bits .and .i64 x1 127)) % 256]) (x1 / 128)) else (none)) else (if x0.length < 140737488355328 then (some (x0 ++ [(x1) % 256])) else (none))
def impl_putNum.f (k:Nat) (l0:List Int) (a1:Int):Option (List Int):=impl_putNum.l0 k l0 (mx 0 (mn a1 1000000000))
theorem impl_putNum.calls (k:Nat) (P0_:Nat->Prop) (u9000_:Value) (l0:List Int) (a1:Int) (r:List Int) (w0 w:World) (hB:Below w0.heap.size w0 w) (ho0:Kd.R (Kd.int .u8) 5 w w0.heap.size P0_ u9000_ l0) (h:impl_putNum.f k l0 a1=some r) :
  Calls Tryz.prog 155 #[u9000_,.int .i64 a1] w fun e w'=>∃ v0_:Value,e = .returned (v0_)∧Kd.R (Kd.int .u8) 5 w' w0.heap.size (fun k_=>(P0_ k_∨w.heap.size≤k_)) v0_ r∧Below w0.heap.size w0 w'∧Kept w w' (fun k_=>P0_ k_):=by
 have HO0:=am_ (show Kd.R (Kd.int .u8) 5 w w0.heap.size (fun k_=>(P0_ k_∨w.heap.size≤k_)) u9000_ l0 from Kd.R_mono ho0 (fun k_ hk=>(.inl hk)))
 have HK:=am_ (Kept.refl w (fun k_=>P0_ k_))
 have HW0:=am_ hB.size
 have HB:=am_ hB
 clear hB
 have H:(impl_putNum.l0 k l0 (mx 0 (mn a1 1000000000)))=some r:=h
 clear h
 generalize hji3:(mn a1 1000000000)=ji3 at H
 (try (have hji3h:ji3≤1000000000:=by (rw [← hji3];unfold mn;(repeat' split) <;> omega)))
 (try (have hji3g:ji3≤64:=by omega))
 have hji3_:(if 1000000000 < a1 then 1000000000 else a1)=ji3:=hji3
 generalize hji4:(mx 0 (ji3))=ji4 at H
 have hji4_:(if 0 < (ji3) then (ji3) else 0)=ji4:=hji4
 have H':=am_ H
 clear H
 go_enter Tryz.func155,Tryz.ntmps155
 go_wp2
 go_loopg [0,1] k (fun kq v0 v1 w'=>∃ (x0_1:List Int) (x1_1:Int),v1 = .int .i64 x1_1∧Aside0 (impl_putNum.l0 kq x0_1 x1_1=some r)∧Aside0 (kq≤k)∧Aside0 (Kd.R (Kd.int .u8) 5 w' w0.heap.size (fun k_=>(P0_ k_∨w.heap.size≤k_)) v0 x0_1)∧Aside0 (Kept w w' (fun k_=>P0_ k_))∧Aside0 (Below w0.heap.size w0 w'))
 case atStart => exact ⟨(l0),(ji4),(by first|rfl|(simp;done)|(simp only [← hji4] <;> (first|rfl|simp))|(simp [*];done)),H',⟨Nat.le_refl _⟩,⟨kr_ HO0.out⟩,⟨kt_ HK⟩,⟨bw_ HB⟩⟩
 case round =>
  clear H'
  obtain ⟨x0_1,x1_1,rfl,HA,HK1,HO_0,HK,HB⟩:=hrel
  cases gk with
  | zero=>exact absurd HA.out (by simp [impl_putNum.l0])
  | succ k1 =>
   have H:=HA.out
   clear HA
   simp only [impl_putNum.l0] at H
   replace H:=it_ H;obtain ⟨c5,H⟩|⟨c5,H⟩:=H
   ·have c5b0:decide (127 < x1_1)=true:=decide_eq_true c5
    clear c5
    replace H:=ip_ H;obtain ⟨c6,H⟩:=H
    have LMc6:=am_ c6
    clear c6
    obtain ⟨y601,hy1⟩:∃ y_:List Int,y_=(x0_1 ++ [(Go.bits .or .i64 128 (Go.bits .and .i64 x1_1 127)) % 256]):=⟨_,rfl⟩
    replace H:(impl_putNum.l0 k1 y601 (x1_1 / 128))=some r:=yh_ hy1 H
    have Ny1:=am_ hy1
    clear hy1
    have H':=am_ H
    clear H
    go_wp2_with (first|((with_reducible refine gate_builtin (b:=.append) (xs:=#[.tmp 10,.tmp 15]) rfl ?_);at_builtin;refine Kd.R_append (Kd.int .u8) (w0:=w0) w0.heap.size rfl (.tmp 10) (.tmp 15) 27 5 (.int .u8 0) 1 rfl Tryz.underlying27 info5 rfl (by decide) (by omega) u0 x0_1 ((Go.bits .or .i64 128 (Go.bits .and .i64 x1_1 127)) % 256) [.int .u8 ((Go.bits .or .i64 128 (Go.bits .and .i64 x1_1 127)) % 256)] (fun k_=>(P0_ k_∨w.heap.size≤k_)) (fun _=>False) rfl rfl ?aP (fun _ hk=>hk.elim) ?aF ?aO ?aB ?aS ?aL ?_;(case aP=>exact rfl);(case aB=>exact (bw_ HB));(case aF=>exact (fun k_ hk=>(.inr (Nat.le_trans (by first|exact HK.out.1|exact (show Kept w _ (fun k_=>P0_ k_) from kt_ HK).1) hk))));(case aO=>exact (kr_ HO_0.out));(case aS=>exact (sz_ HB));(case aL=>have:=LMc6.out;omega);intro v2 w7 ho hb hg hat;rw [← Ny1.out] at ho;replace HB:=am_ hb;replace HK:=am_ (Kept.of_grown (S:=(fun k_=>P0_ k_)) hg (kt_ HK) (fun k_ e_=>(HO_0.out.1 k_ e_)));have HO3:=am_ ho;clear HO_0;clear ho hb hg hat))
    go_roundg k1
    case measure => have:=HK1.out;omega
    case rel => exact ⟨(y601),(x1_1 / 128),e1_,H',⟨by have:=HK1.out;omega⟩,⟨kr_ HO3.out⟩,⟨kt_ HK⟩,⟨bw_ HB⟩⟩
   ·have c5b0:decide (127 < x1_1)=false:=decide_eq_false c5
    clear c5
    replace H:=ip_ H;obtain ⟨c8,H⟩:=H
    have LMc8:=am_ c8
    clear c8
    obtain ⟨y604,hy4⟩:∃ y_:List Int,y_=(x0_1 ++ [(x1_1) % 256]):=⟨_,rfl⟩
    replace H:(some y604)=some r:=yh_ hy4 H
    have Ny4:=am_ hy4
    clear hy4
    obtain rfl:=Option.some.inj H
    go_wp2_with (first|((with_reducible refine gate_builtin (b:=.append) (xs:=#[.tmp 19,.tmp 22]) rfl ?_);at_builtin;refine Kd.R_append (Kd.int .u8) (w0:=w0) w0.heap.size rfl (.tmp 19) (.tmp 22) 27 5 (.int .u8 0) 1 rfl Tryz.underlying27 info5 rfl (by decide) (by omega) u0 x0_1 ((x1_1) % 256) [.int .u8 ((x1_1) % 256)] (fun k_=>(P0_ k_∨w.heap.size≤k_)) (fun _=>False) rfl rfl ?aP (fun _ hk=>hk.elim) ?aF ?aO ?aB ?aS ?aL ?_;(case aP=>exact rfl);(case aB=>exact (bw_ HB));(case aF=>exact (fun k_ hk=>(.inr (Nat.le_trans (by first|exact HK.out.1|exact (show Kept w _ (fun k_=>P0_ k_) from kt_ HK).1) hk))));(case aO=>exact (kr_ HO_0.out));(case aS=>exact (sz_ HB));(case aL=>have:=LMc8.out;omega);intro v5 w9 ho hb hg hat;rw [← Ny4.out] at ho;replace HB:=am_ hb;replace HK:=am_ (Kept.of_grown (S:=(fun k_=>P0_ k_)) hg (kt_ HK) (fun k_ e_=>(HO_0.out.1 k_ e_)));have HO6:=am_ ho;clear HO_0;clear ho hb hg hat))
    go_ret
    exact ⟨_,by first|rfl|(simp [errW_none,errW_some] <;> rfl)|(simp only [← hji3,← hji4];first|rfl|(simp [errW_none,errW_some] <;> rfl))|(simp [*,errW_none,errW_some] <;> rfl),kr_ HO6.out,bw_ HB,kt_ HK⟩
def spec_PutText.f (k:Nat) (l0:List Int) (a1:ByteArray):Option (List Int):=(spec_PutNum.f k l0 (a1.size:Int)).bind fun t1=>(if t1.length+a1.size < 140737488355328 then (some (t1 ++ bytesOf a1)) else (none))
theorem spec_PutText.calls (k:Nat) (A0:Option Addr) (c0:Nat) (l0:List Int) (a1:ByteArray) (r:List Int) (w:World) (hr0:Kd.C (Kd.int .u8) w A0 l0.length l0) (hc0:l0.length≤c0) (h:spec_PutText.f k l0 a1=some r) :
  Calls Tryz.prog 167 #[.slice A0 l0.length c0,.string a1] w fun e w'=>∃ v0_:Value,e = .returned (v0_)∧Kd.R (Kd.int .u8) 5 w' w.heap.size (fun _=>True) v0_ r∧Below w.heap.size w w':=by
 have HR0:=am_ hr0
 have HC0:=am_ hc0
 clear hr0 hc0
 have HB:=h0_ w
 have H:((spec_PutNum.f k l0 (a1.size:Int)).bind fun t1=>(if t1.length+a1.size < 140737488355328 then (some (t1 ++ bytesOf a1)) else (none)))=some r:=h
 clear h
 replace H:=bi_ H;obtain ⟨t1,A3,H⟩:=H
 replace H:=ip_ H;obtain ⟨c4,H⟩:=H
 have LMc4:=am_ c4
 clear c4
 obtain ⟨y604,hy4⟩:∃ y_:List Int,y_=(t1 ++ bytesOf a1):=⟨_,rfl⟩
 replace H:(some y604)=some r:=yh_ hy4 H
 have Ny4:=am_ hy4
 clear hy4
 obtain rfl:=Option.some.inj H
 go_enter Tryz.func167,Tryz.ntmps167
 go_wp2_with (first|((with_reducible refine gq_ 168 8 ?_);refine gc_ 8 Tryz.func168 (spec_PutNum.calls k _ _ l0 (a1.size:Int) t1 _ (cr_ HR0.out) HC0.out A3.out) ?_;rintro e w5 ⟨v2,rfl,ho0,hb⟩;refine ⟨_,rfl,?_⟩;have HO3:=rlo_ ho0 HB;replace HB:=ss_ HB hb;clear hb ho0)|(at_builtin;refine print_append_str (w0:=w) w.heap.size rfl (.tmp 8) _ 27 9 5 rfl Tryz.underlying27 Tryz.underlying9 info5 v2 t1 a1 rfl rfl ?aO ?aB ?aS ?aL ?_;(case aB=>exact (bw_ HB));(case aO=>exact (Kd.own_of_R (kr_ HO3.out)));(case aS=>exact (sz_ HB));(case aL=>have:=LMc4.out;omega);intro v5 w6 ho0 hb hg;have ho:=Kd.R_of_own (h1:=fun _=>rfl) (ok:=fun _=>True) ho0 (fun _ _=>trivial);clear ho0;have hat:=True.intro;rw [← Ny4.out] at ho;change Kd.R (Kd.int .u8) 5 w6 w.heap.size (fun _=>True) v5 y604 at ho;replace HB:=am_ hb;have HO6:=am_ ho;clear HO3;clear ho hb hg hat))
 go_ret
 exact ⟨_,e2_,kr_ HO6.out,bw_ HB⟩
def impl_putText.f (k:Nat) (l0:List Int) (a1:ByteArray):Option (List Int):=(impl_putNum.f k l0 (a1.size:Int)).bind fun t1=>(if t1.length+a1.size < 140737488355328 then (some (t1 ++ bytesOf a1)) else (none))
theorem impl_putText.calls (k:Nat) (P0_:Nat->Prop) (u9000_:Value) (l0:List Int) (a1:ByteArray) (r:List Int) (w0 w:World) (hB:Below w0.heap.size w0 w) (ho0:Kd.R (Kd.int .u8) 5 w w0.heap.size P0_ u9000_ l0) (h:impl_putText.f k l0 a1=some r) :
  Calls Tryz.prog 154 #[u9000_,.string a1] w fun e w'=>∃ v0_:Value,e = .returned (v0_)∧Kd.R (Kd.int .u8) 5 w' w0.heap.size (fun k_=>(P0_ k_∨w.heap.size≤k_)) v0_ r∧Below w0.heap.size w0 w'∧Kept w w' (fun k_=>P0_ k_):=by
 have HO0:=am_ (show Kd.R (Kd.int .u8) 5 w w0.heap.size (fun k_=>(P0_ k_∨w.heap.size≤k_)) u9000_ l0 from Kd.R_mono ho0 (fun k_ hk=>(.inl hk)))
 have HK:=am_ (Kept.refl w (fun k_=>P0_ k_))
 have HW0:=am_ hB.size
 have HB:=am_ hB
 clear hB
 have H:((impl_putNum.f k l0 (a1.size:Int)).bind fun t1=>(if t1.length+a1.size < 140737488355328 then (some (t1 ++ bytesOf a1)) else (none)))=some r:=h
 clear h
 replace H:=bi_ H;obtain ⟨t1,A3,H⟩:=H
 replace H:=ip_ H;obtain ⟨c4,H⟩:=H
 have LMc4:=am_ c4
 clear c4
 obtain ⟨y604,hy4⟩:∃ y_:List Int,y_=(t1 ++ bytesOf a1):=⟨_,rfl⟩
 replace H:(some y604)=some r:=yh_ hy4 H
 have Ny4:=am_ hy4
 clear hy4
 obtain rfl:=Option.some.inj H
 obtain ⟨Ao5,co5,eo5⟩:=Kd.R_slice HO0.out
 subst eo5
 go_enter Tryz.func154,Tryz.ntmps154
 go_wp2_with (first|((with_reducible refine gq_ 155 8 ?_);refine gc_ 8 Tryz.func155 (impl_putNum.calls k (fun k_=>some k_=(.slice Ao5 l0.length co5:Value).ownBlock) (.slice Ao5 l0.length co5) l0 (a1.size:Int) t1 w0 _ (bw_ HB) (Kd.R_tight rfl HO0.out) A3.out) ?_;rintro e w6 ⟨v2,rfl,ho0,hb,hkp⟩;refine ⟨_,rfl,?_⟩;have HO3:=am_ (Kd.R_mono (ok':=fun k_=>(P0_ k_∨w.heap.size≤k_)) ho0 (fun k_ hk_=>Or.elim hk_ (fun hs_=>(HO0.out.1 k_ (hs_).symm)) (fun hn_=>(.inr (Nat.le_trans (by first|exact HK.out.1|exact (show Kept w _ (fun k_=>P0_ k_) from kt_ HK).1) hn_)))));replace HK:=am_ (Kept.then_ (S:=(fun k_=>P0_ k_)) (kt_ HK) hkp (fun k_ hs_=>(fun e_=>(HO0.out.1 k_ e_.symm)) hs_));replace HB:=am_ hb;clear HO0;clear hb hkp ho0)|(at_builtin;refine print_append_strR (w0:=w0) w0.heap.size rfl (.tmp 8) _ 27 9 5 rfl Tryz.underlying27 Tryz.underlying9 info5 v2 t1 a1 (fun k_=>(P0_ k_∨w.heap.size≤k_)) rfl rfl ?aF ?aO ?aB ?aS ?aL ?_;(case aB=>exact (bw_ HB));(case aF=>exact (fun k_ hk=>(.inr (Nat.le_trans (by first|exact HK.out.1|exact (show Kept w _ (fun k_=>P0_ k_) from kt_ HK).1) hk))));(case aO=>exact (kr_ HO3.out));(case aS=>exact (sz_ HB));(case aL=>have:=LMc4.out;omega);intro v5 w7 ho hb hg hat;rw [← Ny4.out] at ho;replace HB:=am_ hb;replace HK:=am_ (Kept.of_grown (S:=(fun k_=>P0_ k_)) hg (kt_ HK) (fun k_ e_=>(HO3.out.1 k_ e_)));have HO6:=am_ ho;clear HO3;clear ho hb hg hat))
 go_ret
 exact ⟨_,e2_,kr_ HO6.out,bw_ HB,kt_ HK⟩
def spec_PutTexts.l0:Nat->List ByteArray->List Int->Int->Option (List Int)
 | 0,_,_,_=>none
 | k+1,x1,x5,x6=>if x6 < (x1.length:Int) then (if 0≤x6 then ((spec_PutText.f k x5 (rdOf ByteArray.empty x1 x6)).bind fun t5=>(spec_PutTexts.l0 k x1 t5 (wrap64 (x6+1)))) else (none)) else (some x5)
def spec_PutTexts.f (k:Nat) (l0:List Int) (l1:List ByteArray):Option (List Int):=(spec_PutNum.f k l0 (l1.length:Int)).bind fun t1=>(spec_PutTexts.l0 k l1 t1 0)
theorem spec_PutTexts.calls (k:Nat) (A0:Option Addr) (c0:Nat) (l0:List Int) (A1:Option Addr) (c1:Nat) (l1:List ByteArray) (r:List Int) (w:World) (hr0:Kd.C (Kd.int .u8) w A0 l0.length l0) (hc0:l0.length≤c0) (hr1:Kd.C Kd.string w A1 l1.length l1) (hc1:l1.length≤c1) (h:spec_PutTexts.f k l0 l1=some r) :
  Calls Tryz.prog 166 #[.slice A0 l0.length c0,.slice A1 l1.length c1] w fun e w'=>∃ v0_:Value,e = .returned (v0_)∧Kd.R (Kd.int .u8) 5 w' w.heap.size (fun _=>True) v0_ r∧Below w.heap.size w w':=by
 have HR0:=am_ hr0
 have HC0:=am_ hc0
 clear hr0 hc0
 have HR1:=am_ hr1
 have HC1:=am_ hc1
 clear hr1 hc1
 have HB:=h0_ w
 have H:((spec_PutNum.f k l0 (l1.length:Int)).bind fun t1=>(spec_PutTexts.l0 k l1 t1 0))=some r:=h
 clear h
 replace H:=bi_ H;obtain ⟨t1,A3,H⟩:=H
 have H':=am_ H
 clear H
 go_enter Tryz.func166,Tryz.ntmps166
 go_wp2_with (first|((with_reducible refine gq_ 168 10 ?_);refine gc_ 10 Tryz.func168 (spec_PutNum.calls k _ _ l0 (l1.length:Int) t1 _ (cr_ HR0.out) HC0.out A3.out) ?_;rintro e w4 ⟨v2,rfl,ho0,hb⟩;refine ⟨_,rfl,?_⟩;have HO3:=rlo_ ho0 HB;replace HB:=ss_ HB hb;clear hb ho0))
 go_loopg [5,6] k (fun kq v5 v6 w'=>∃ (x5_1:List Int) (x6_1:Int),v6 = .int .i64 x6_1∧Aside0 (spec_PutTexts.l0 kq l1 x5_1 x6_1=some r)∧Aside0 (kq≤k)∧Aside0 (Kd.R (Kd.int .u8) 5 w' w.heap.size (fun _=>True) v5 x5_1)∧Aside0 (Below w.heap.size w w'))
 case atStart => exact ⟨(t1),(0),e1_,H',⟨Nat.le_refl _⟩,⟨kr_ HO3.out⟩,⟨bw_ HB⟩⟩
 case round =>
  clear H'
  obtain ⟨x5_1,x6_1,rfl,HA,HK1,HO_5,HB⟩:=hrel
  cases gk with
  | zero=>exact absurd HA.out (by simp [spec_PutTexts.l0])
  | succ k1 =>
   have H:=HA.out
   clear HA
   simp only [spec_PutTexts.l0] at H
   replace H:=itd_ H;obtain ⟨c5b0,H⟩|⟨c5b0,H⟩:=H
   ·replace H:=ipd_ H;obtain ⟨c6b0,H⟩:=H
    replace H:=bi_ H;obtain ⟨t5,A7,H⟩:=H
    have H':=am_ H
    clear H
    have p604:0≤(x6_1:Int):=od_
    have q4:x6_1 < (l1.length:Int):=od_
    obtain ⟨ad4,e4,hx4_0⟩:=Kd.at_string HR1.out x6_1 p604 q4
    cases e4
    replace hx4_0:=cw_ HB hx4_0
    replace p604:=eq_true p604
    replace q4:=eq_true q4
    obtain ⟨Ao8,co8,eo8⟩:=Kd.R_slice HO_5.out
    subst eo8
    go_wp2_with (first|((with_reducible refine gq_ 167 22 ?_);refine gc_ 22 Tryz.func167 (spec_PutText.calls k1 _ _ x5_1 (rdOf ByteArray.empty l1 x6_1) t5 _ (ch_ HO_5) (cl_ HO_5) A7.out) ?_;rintro e w9 ⟨v606,rfl,ho0,hb⟩;refine ⟨_,rfl,?_⟩;have HO7:=am_ (Kd.R_lower (Kd.R_new' ho0 (lt_ HO_5)) (sz_ HB));replace HO_5:=re_ HO_5 ho0 hb;replace HB:=ss_ HB hb;clear hb ho0))
    go_roundg k1
    case measure => have:=HK1.out;omega
    case rel => exact ⟨(t5),(wrap64 (x6_1+1)),e1_,H',⟨by have:=HK1.out;omega⟩,⟨km_ HO7⟩,⟨bw_ HB⟩⟩
   ·obtain rfl:=Option.some.inj H
    go_wp2
    go_ret
    exact ⟨_,e2_,kr_ HO_5.out,bw_ HB⟩
def impl_putTexts.l0:Nat->List Int->List ByteArray->Int->Int->Option (List Int)
 | 0,_,_,_,_=>none
 | k+1,x0,x11,x12,x13=>if x13 < x12 then (if 0≤x13 then (if x13 < (x11.length:Int) then ((impl_putText.f k x0 (rdOf ByteArray.empty x11 x13)).bind fun t5=>(impl_putTexts.l0 k t5 x11 x12 (wrap64 (x13+1)))) else (none)) else (none)) else (some x0)
def impl_putTexts.f (k:Nat) (l0:List Int) (l1:List ByteArray):Option (List Int):=(impl_putNum.f k l0 (l1.length:Int)).bind fun t1=>(impl_putTexts.l0 k t1 l1 (l1.length:Int) 0)
theorem impl_putTexts.calls (k:Nat) (P0_:Nat->Prop) (u9000_:Value) (l0:List Int) (A1:Option Addr) (c1:Nat) (l1:List ByteArray) (r:List Int) (w0 w:World) (hB:Below w0.heap.size w0 w) (ho0:Kd.R (Kd.int .u8) 5 w w0.heap.size P0_ u9000_ l0) (hr1:∀ W_,Kept w W_ (fun k_=>P0_ k_)->Kd.C Kd.string W_ A1 l1.length l1) (hc1:l1.length≤c1) (h:impl_putTexts.f k l0 l1=some r) :
  Calls Tryz.prog 153 #[u9000_,.slice A1 l1.length c1] w fun e w'=>∃ v0_:Value,e = .returned (v0_)∧Kd.R (Kd.int .u8) 5 w' w0.heap.size (fun k_=>(P0_ k_∨w.heap.size≤k_)) v0_ r∧Below w0.heap.size w0 w'∧Kept w w' (fun k_=>P0_ k_):=by
 have HO0:=am_ (show Kd.R (Kd.int .u8) 5 w w0.heap.size (fun k_=>(P0_ k_∨w.heap.size≤k_)) u9000_ l0 from Kd.R_mono ho0 (fun k_ hk=>(.inl hk)))
 have HR1:=am_ hr1
 have HC1:=am_ hc1
 clear hr1 hc1
 have HK:=am_ (Kept.refl w (fun k_=>P0_ k_))
 have HW0:=am_ hB.size
 have HB:=am_ hB
 clear hB
 have H:((impl_putNum.f k l0 (l1.length:Int)).bind fun t1=>(impl_putTexts.l0 k t1 l1 (l1.length:Int) 0))=some r:=h
 clear h
 replace H:=bi_ H;obtain ⟨t1,A3,H⟩:=H
 have H':=am_ H
 clear H
 obtain ⟨Ao4,co4,eo4⟩:=Kd.R_slice HO0.out
 subst eo4
 go_enter Tryz.func153,Tryz.ntmps153
 go_wp2_with (first|((with_reducible refine gq_ 155 10 ?_);refine gc_ 10 Tryz.func155 (impl_putNum.calls k (fun k_=>some k_=(.slice Ao4 l0.length co4:Value).ownBlock) (.slice Ao4 l0.length co4) l0 (l1.length:Int) t1 w0 _ (bw_ HB) (Kd.R_tight rfl HO0.out) A3.out) ?_;rintro e w5 ⟨v2,rfl,ho0,hb,hkp⟩;refine ⟨_,rfl,?_⟩;have HO3:=am_ (Kd.R_mono (ok':=fun k_=>(P0_ k_∨w.heap.size≤k_)) ho0 (fun k_ hk_=>Or.elim hk_ (fun hs_=>(HO0.out.1 k_ (hs_).symm)) (fun hn_=>(.inr (Nat.le_trans (by first|exact HK.out.1|exact (show Kept w _ (fun k_=>P0_ k_) from kt_ HK).1) hn_)))));replace HK:=am_ (Kept.then_ (S:=(fun k_=>P0_ k_)) (kt_ HK) hkp (fun k_ hs_=>(fun e_=>(HO0.out.1 k_ e_.symm)) hs_));replace HB:=am_ hb;clear HO0;clear hb hkp ho0))
 go_loopg [0,13] k (fun kq v0 v13 w'=>∃ (x0_1:List Int) (x13_1:Int),v13 = .int .i64 x13_1∧Aside0 (impl_putTexts.l0 kq x0_1 l1 (l1.length:Int) x13_1=some r)∧Aside0 (kq≤k)∧Aside0 (Kd.R (Kd.int .u8) 5 w' w0.heap.size (fun k_=>(P0_ k_∨w.heap.size≤k_)) v0 x0_1)∧Aside0 (Kept w w' (fun k_=>P0_ k_))∧Aside0 (Below w0.heap.size w0 w'))
 case atStart => exact ⟨(t1),(0),e1_,H',⟨Nat.le_refl _⟩,⟨kr_ HO3.out⟩,⟨kt_ HK⟩,⟨bw_ HB⟩⟩
 case round =>
  clear H'
  obtain ⟨x0_1,x13_1,rfl,HA,HK1,HO_0,HK,HB⟩:=hrel
  cases gk with
  | zero=>exact absurd HA.out (by simp [impl_putTexts.l0])
  | succ k1 =>
   have H:=HA.out
   clear HA
   simp only [impl_putTexts.l0] at H
   replace H:=itd_ H;obtain ⟨c6b0,H⟩|⟨c6b0,H⟩:=H
   ·replace H:=ipd_ H;obtain ⟨c7b0,H⟩:=H
    replace H:=ipd_ H;obtain ⟨c8b0,H⟩:=H
    replace H:=bi_ H;obtain ⟨t5,A9,H⟩:=H
    have H':=am_ H
    clear H
    have p604:0≤(x13_1:Int):=od_
    have q4:x13_1 < (l1.length:Int):=od_
    obtain ⟨ad4,e4,hx4_0⟩:=Kd.at_string (Kd.C_kept_now HR1.out HK.out) x13_1 p604 q4
    cases e4
    replace p604:=eq_true p604
    replace q4:=eq_true q4
    obtain ⟨Ao10,co10,eo10⟩:=Kd.R_slice HO_0.out
    subst eo10
    go_wp2_with (first|((with_reducible refine gq_ 154 19 ?_);refine gc_ 19 Tryz.func154 (impl_putText.calls k1 (fun k_=>some k_=(.slice Ao10 x0_1.length co10:Value).ownBlock) (.slice Ao10 x0_1.length co10) x0_1 (rdOf ByteArray.empty l1 x13_1) t5 w0 _ (bw_ HB) (Kd.R_tight rfl HO_0.out) A9.out) ?_;rintro e w11 ⟨v6,rfl,ho0,hb,hkp⟩;refine ⟨_,rfl,?_⟩;have HO7:=am_ (Kd.R_mono (ok':=fun k_=>(P0_ k_∨w.heap.size≤k_)) ho0 (fun k_ hk_=>Or.elim hk_ (fun hs_=>(HO_0.out.1 k_ (hs_).symm)) (fun hn_=>(.inr (Nat.le_trans (by first|exact HK.out.1|exact (show Kept w _ (fun k_=>P0_ k_) from kt_ HK).1) hn_)))));replace HK:=am_ (Kept.then_ (S:=(fun k_=>P0_ k_)) (kt_ HK) hkp (fun k_ hs_=>(fun e_=>(HO_0.out.1 k_ e_.symm)) hs_));replace HB:=am_ hb;clear HO_0;clear hb hkp ho0))
    go_roundg k1
    case measure => have:=HK1.out;omega
    case rel => exact ⟨(t5),(wrap64 (x13_1+1)),e1_,H',⟨by have:=HK1.out;omega⟩,⟨kr_ HO7.out⟩,⟨kt_ HK⟩,⟨bw_ HB⟩⟩
   ·obtain rfl:=Option.some.inj H
    go_wp2
    go_ret
    exact ⟨_,e2_,kr_ HO_0.out,bw_ HB,kt_ HK⟩
mutual
def impl_GetNum.l0:Nat->List Int->Int->Int->Int->Option (Int × Int × Bool)
 | 0,_,_,_,_=>none
 | k+1,x0,x1,x7,x8=>if x8 < 5 then (impl_GetNum.j1 k x0 x1 x7 x8 (decide (x1 < (x0.length:Int)))) else (impl_GetNum.j1 k x0 x1 x7 x8 false)
def impl_GetNum.j1:Nat->List Int->Int->Int->Int->Bool->Option (Int × Int × Bool)
 | 0,_,_,_,_,_=>none
 | k+1,x0,x1,x7,x8,x23=>if x23=true then (if 0≤x1 then (if x1 < (x0.length:Int) then (if 0≤(IntKind.u64.wrap (wrap64 (7 * x8))) then (if (wrap64 (rd x0 x1)) < 128 then (if (wrap64 (rd x0 x1))=0 then (if x8 > 0 then (some (0,0,false)) else (if (Go.bits .or .i64 x7 (shl .i64 (Go.bits .and .i64 (wrap64 (rd x0 x1)) 127) (IntKind.u64.wrap (wrap64 (7 * x8))))) > 1000000000 then (some (0,0,false)) else (some (Go.bits .or .i64 x7 (shl .i64 (Go.bits .and .i64 (wrap64 (rd x0 x1)) 127) (IntKind.u64.wrap (wrap64 (7 * x8)))),wrap64 (x1+1),true)))) else (if (Go.bits .or .i64 x7 (shl .i64 (Go.bits .and .i64 (wrap64 (rd x0 x1)) 127) (IntKind.u64.wrap (wrap64 (7 * x8))))) > 1000000000 then (some (0,0,false)) else (some (Go.bits .or .i64 x7 (shl .i64 (Go.bits .and .i64 (wrap64 (rd x0 x1)) 127) (IntKind.u64.wrap (wrap64 (7 * x8)))),wrap64 (x1+1),true)))) else (impl_GetNum.l0 k x0 (wrap64 (x1+1)) (Go.bits .or .i64 x7 (shl .i64 (Go.bits .and .i64 (wrap64 (rd x0 x1)) 127) (IntKind.u64.wrap (wrap64 (7 * x8))))) (wrap64 (x8+1)))) else (none)) else (none)) else (none)) else (some (0,0,false))
end
def impl_GetNum.f (k:Nat) (l0:List Int) (a1:Int):Option (Int × Int × Bool):=(impl_inRange.f a1 0 (wrap64 ((l0.length:Int) - 1))).bind fun t1=>(if t1=true then (impl_GetNum.l0 k l0 a1 0 0) else (some (0,0,false)))
theorem impl_GetNum.calls (k:Nat) (A0:Option Addr) (c0:Nat) (l0:List Int) (a1:Int) (r1:Int) (r2:Int) (r3:Bool) (w:World) (hr0:Kd.C (Kd.int .u8) w A0 l0.length l0) (hc0:l0.length≤c0) (h:impl_GetNum.f k l0 a1=some (r1,r2,r3)) :
  Calls Tryz.prog 97 #[.slice A0 l0.length c0,.int .i64 a1] w fun e w'=>e = .returned (.tuple #[.int .i64 r1,.int .i64 r2,.bool r3])∧Drawn0 w w':=by
 have HR0:=am_ hr0
 have HC0:=am_ hc0
 clear hr0 hc0
 have H:((impl_inRange.f a1 0 (wrap64 ((l0.length:Int) - 1))).bind fun t1=>(if t1=true then (impl_GetNum.l0 k l0 a1 0 0) else (some (0,0,false))))=some (r1,r2,r3):=h
 clear h
 replace H:=bi_ H;obtain ⟨t1,A3,H⟩:=H
 replace H:=itb_ H;obtain ⟨rfl,H⟩|⟨rfl,H⟩:=H
 ·have H' := am_ H
  clear H
  go_enter Tryz.func97,Tryz.ntmps97
  go_wp2_with (first|((with_reducible refine gq_ 63 14 ?_);refine gc_ 14 Tryz.func63 (impl_inRange.calls a1 0 (wrap64 ((l0.length:Int) - 1)) true _ A3.out) ?_;rintro e w' ⟨rfl,⟨nd,rfl⟩⟩;refine ⟨_,rfl,?_⟩))
  go_loopg [1,7,8] k (fun kq v1 v7 v8 w'=>∃ (x1_1:Int) (x7_1:Int) (x8_1:Int),v1 = .int .i64 x1_1∧v7 = .int .i64 x7_1∧v8 = .int .i64 x8_1∧Aside0 (impl_GetNum.l0 kq l0 x1_1 x7_1 x8_1=some (r1,r2,r3))∧Aside0 (kq≤k)∧Drawn0 w w')
  case atStart => exact ⟨(a1),(0),(0),e1_,e1_,e1_,H',⟨Nat.le_refl _⟩,dw_⟩
  case round =>
   clear H'
   obtain ⟨x1_1,x7_1,x8_1,rfl,rfl,rfl,HA,HK1,⟨m1,rfl⟩⟩:=hrel
   cases gk with
   | zero=>exact absurd HA.out (by simp [impl_GetNum.l0])
   | succ k1 =>
    have H:=HA.out
    clear HA
    simp only [impl_GetNum.l0] at H
    have HC5:=am_ H
    clear H
    go_upto_region 5 with (fail)
    go_cut [23] (fun v23 wc=>∃ (kq:Nat) (x23_4:Bool),v23 = .bool x23_4∧Aside0 (impl_GetNum.j1 kq l0 x1_1 x7_1 x8_1 x23_4=some (r1,r2,r3))∧Aside0 (kq≤k1)∧Drawn0 w wc)
    case first =>
     have H:=HC5.out
     clear HC5
     replace H:=itd_ H;obtain ⟨c6b0,H⟩|⟨c6b0,H⟩:=H
     ·(first | rw [c6b0]|(simp only [i64_w,i32_w];rw [c6b0])|skip)
      have H':=am_ H
      clear H
      go_wp2
      go_meet
      case rel => exact ⟨_,(decide (x1_1 < (l0.length:Int))),e1_,H',⟨by have:=HK1.out;first|omega|exact Nat.le_refl _⟩,dw_⟩
     ·(first | rw [c6b0]|(simp only [i64_w,i32_w];rw [c6b0])|skip)
      have H':=am_ H
      clear H
      go_wp2
      go_meet
      case rel => exact ⟨_,(false),e1_,H',⟨by have:=HK1.out;first|omega|exact Nat.le_refl _⟩,dw_⟩
    case rest =>
     clear HC5
     try clear p2
     try clear c4
     obtain ⟨kq,x23_4,rfl,HA,HJ4,⟨mc4,rfl⟩⟩:=hcut
     cases kq with
     | zero=>exact absurd HA.out (by simp [impl_GetNum.j1])
     | succ kj4 =>
      have H:=HA.out
      clear HA
      simp only [impl_GetNum.j1] at H
      replace H:=itb_ H;obtain ⟨rfl,H⟩|⟨rfl,H⟩:=H
      ·replace H:=ipd_ H;obtain ⟨c8b0,H⟩:=H
       replace H:=ipd_ H;obtain ⟨c9b0,H⟩:=H
       generalize hji10:(IntKind.u64.wrap (wrap64 (7 * x8_1)))=ji10 at H
       replace H:=ip_ H;obtain ⟨c11,H⟩:=H
       have c11b0:=eq_true c11
       have c11b1:=decide_eq_true c11
       clear c11
       generalize hji12:(shl .i64 (Go.bits .and .i64 (wrap64 (rd l0 x1_1)) 127) (ji10))=ji12 at H
       have hji12_:(IntKind.i64.wrap ((Go.bits .and .i64 (wrap64 (rd l0 x1_1)) 127) * 2 ^ min (ji10).toNat 64))=ji12:=hji12
       have hji12z:(ji10)≤64->(IntKind.i64.wrap ((Go.bits .and .i64 (wrap64 (rd l0 x1_1)) 127) * 2 ^ (ji10).toNat))=ji12:=shl_small hji12
       have hji12y:(wrap64 ((Go.bits .and .i64 (wrap64 (rd l0 x1_1)) 127) * 2 ^ min (ji10).toNat 64))=ji12:=(i64_w _).symm.trans hji12_
       have hji12x:(ji10)≤64->(wrap64 ((Go.bits .and .i64 (wrap64 (rd l0 x1_1)) 127) * 2 ^ (ji10).toNat))=ji12:=fun h_=>(i64_w _).symm.trans (hji12z h_)
       replace H:=itd_ H;obtain ⟨c13b0,H⟩|⟨c13b0,H⟩:=H
       ·replace H:=it_ H;obtain ⟨c14,H⟩|⟨c14,H⟩:=H
        ·have c14b0:((wrap64 (rd l0 x1_1)) == 0)=true:=beq_iff_eq.mpr c14
         have c14b1:((wrap64 (rd l0 x1_1)) != 0)=false:=bne_eq_false_iff_eq.mpr c14
         clear c14
         replace H:=it_ H;obtain ⟨c15,H⟩|⟨c15,H⟩:=H
         ·have c15b0:decide (0 < x8_1)=true:=decide_eq_true c15
          clear c15
          replace H:=so3_ H;obtain ⟨rfl,rfl,rfl⟩:=H
          obtain ⟨ad2,e602,hx2_0,p602,q602⟩:=ai_ HR0.out x1_1
          cases e602
          go_wp2
          go_ret3
          exact ⟨by first|rfl|(simp;done)|(simp only [← hji10,← hji12] <;> (first|rfl|simp))|(simp [*];done),dw_⟩
         ·have c15b0:decide (0 < x8_1)=false:=decide_eq_false c15
          clear c15
          replace H:=it_ H;obtain ⟨c16,H⟩|⟨c16,H⟩:=H
          ·have c16b0:decide (1000000000 < (Go.bits .or .i64 x7_1 (ji12)))=true:=decide_eq_true c16
           clear c16
           replace H:=so3_ H;obtain ⟨rfl,rfl,rfl⟩:=H
           obtain ⟨ad2,e602,hx2_0,p602,q602⟩:=ai_ HR0.out x1_1
           cases e602
           go_wp2
           go_ret3
           exact ⟨by first|rfl|(simp;done)|(simp only [← hji10,← hji12] <;> (first|rfl|simp))|(simp [*];done),dw_⟩
          ·have c16b0:decide (1000000000 < (Go.bits .or .i64 x7_1 (ji12)))=false:=decide_eq_false c16
           clear c16
           replace H:=so3_ H;obtain ⟨rfl,rfl,rfl⟩:=H
           obtain ⟨ad2,e602,hx2_0,p602,q602⟩:=ai_ HR0.out x1_1
           cases e602
           go_wp2
           go_ret3
           exact ⟨by first|rfl|(simp;done)|(simp only [← hji10,← hji12] <;> (first|rfl|simp))|(simp [*];done),dw_⟩
        ·have c14b0:((wrap64 (rd l0 x1_1)) == 0)=false:=beq_eq_false_iff_ne.mpr c14
         have c14b1:((wrap64 (rd l0 x1_1)) != 0)=true:=bne_iff_ne.mpr c14
         replace H:=it_ H;obtain ⟨c17,H⟩|⟨c17,H⟩:=H
         ·have c17b0:decide (1000000000 < (Go.bits .or .i64 x7_1 (ji12)))=true:=decide_eq_true c17
          clear c17
          replace H:=so3_ H;obtain ⟨rfl,rfl,rfl⟩:=H
          obtain ⟨ad2,e602,hx2_0,p602,q602⟩:=ai_ HR0.out x1_1
          cases e602
          go_wp2
          go_ret3
          exact ⟨by first|rfl|(simp;done)|(simp only [← hji10,← hji12] <;> (first|rfl|simp))|(simp [*];done),dw_⟩
         ·have c17b0:decide (1000000000 < (Go.bits .or .i64 x7_1 (ji12)))=false:=decide_eq_false c17
          clear c17
          replace H:=so3_ H;obtain ⟨rfl,rfl,rfl⟩:=H
          obtain ⟨ad2,e602,hx2_0,p602,q602⟩:=ai_ HR0.out x1_1
          cases e602
          go_wp2
          go_ret3
          exact ⟨by first|rfl|(simp;done)|(simp only [← hji10,← hji12] <;> (first|rfl|simp))|(simp [*];done),dw_⟩
       ·have H':=am_ H
        clear H
        obtain ⟨ad2,e602,hx2_0,p602,q602⟩:=ai_ HR0.out x1_1
        cases e602
        go_wp2
        go_roundg kj4
        case measure => have:=HK1.out;have:=HJ4.out;omega
        case rel => exact ⟨(wrap64 (x1_1+1)),(Go.bits .or .i64 x7_1 (ji12)),(wrap64 (x8_1+1)),e1_,(by first|rfl|(simp;done)|(simp only [← hji12] <;> (first|rfl|simp))|(simp [*];done)),e1_,H',⟨by have:=HK1.out;have:=HJ4.out;omega⟩,dw_⟩
      ·replace H:=so3_ H;obtain ⟨rfl,rfl,rfl⟩:=H
       go_wp2
       go_ret3
       exact ⟨e1_,dw_⟩
 ·replace H:=so3_ H;obtain ⟨rfl,rfl,rfl⟩:=H
  go_enter Tryz.func97,Tryz.ntmps97
  go_wp2_with (first|((with_reducible refine gq_ 63 14 ?_);refine gc_ 14 Tryz.func63 (impl_inRange.calls a1 0 (wrap64 ((l0.length:Int) - 1)) false _ A3.out) ?_;rintro e w' ⟨rfl,⟨nd,rfl⟩⟩;refine ⟨_,rfl,?_⟩))
  go_ret3
  exact ⟨e1_,dw_⟩
mutual
def spec_GetNum.l0:Nat->List Int->Int->Int->Int->Option (Int × Int × Bool)
 | 0,_,_,_,_=>none
 | k+1,x0,x1,x7,x8=>if x8 < 5 then (if x1 ≥ 0 then (if x1 < (x0.length:Int) then (spec_GetNum.j1 k x0 x1 x7 x8 (decide ((wrap64 (x1+x8)) < (x0.length:Int)))) else (spec_GetNum.j1 k x0 x1 x7 x8 false)) else (spec_GetNum.j1 k x0 x1 x7 x8 false)) else (spec_GetNum.j1 k x0 x1 x7 x8 false)
def spec_GetNum.j1:Nat->List Int->Int->Int->Int->Bool->Option (Int × Int × Bool)
 | 0,_,_,_,_,_=>none
 | k+1,x0,x1,x7,x8,x29=>if x29=true then (if 0≤(wrap64 (x1+x8)) then (if (wrap64 (x1+x8)) < (x0.length:Int) then (if 0≤(IntKind.u64.wrap (wrap64 (7 * x8))) then (if (wrap64 (rd x0 (wrap64 (x1+x8)))) > 127 then (spec_GetNum.l0 k x0 x1 (Go.bits .or .i64 x7 (shl .i64 (Go.bits .and .i64 (wrap64 (rd x0 (wrap64 (x1+x8)))) 127) (IntKind.u64.wrap (wrap64 (7 * x8))))) (wrap64 (x8+1))) else (if x8 > 0 then (if (wrap64 (rd x0 (wrap64 (x1+x8))))=0 then (some (0,0,false)) else (if (Go.bits .or .i64 x7 (shl .i64 (Go.bits .and .i64 (wrap64 (rd x0 (wrap64 (x1+x8)))) 127) (IntKind.u64.wrap (wrap64 (7 * x8))))) > 1000000000 then (some (0,0,false)) else (some (Go.bits .or .i64 x7 (shl .i64 (Go.bits .and .i64 (wrap64 (rd x0 (wrap64 (x1+x8)))) 127) (IntKind.u64.wrap (wrap64 (7 * x8)))),wrap64 ((wrap64 (x1+x8)) + 1),true)))) else (if (Go.bits .or .i64 x7 (shl .i64 (Go.bits .and .i64 (wrap64 (rd x0 (wrap64 (x1+x8)))) 127) (IntKind.u64.wrap (wrap64 (7 * x8))))) > 1000000000 then (some (0,0,false)) else (some (Go.bits .or .i64 x7 (shl .i64 (Go.bits .and .i64 (wrap64 (rd x0 (wrap64 (x1+x8)))) 127) (IntKind.u64.wrap (wrap64 (7 * x8)))),wrap64 ((wrap64 (x1+x8)) + 1),true))))) else (none)) else (none)) else (none)) else (some (0,0,false))
end
def spec_GetNum.f (k:Nat) (l0:List Int) (a1:Int):Option (Int × Int × Bool):=spec_GetNum.l0 k l0 a1 0 0
theorem spec_GetNum.calls (k:Nat) (A0:Option Addr) (c0:Nat) (l0:List Int) (a1:Int) (r1:Int) (r2:Int) (r3:Bool) (w:World) (hr0:Kd.C (Kd.int .u8) w A0 l0.length l0) (hc0:l0.length≤c0) (h:spec_GetNum.f k l0 a1=some (r1,r2,r3)) :
  Calls Tryz.prog 147 #[.slice A0 l0.length c0,.int .i64 a1] w fun e w'=>e = .returned (.tuple #[.int .i64 r1,.int .i64 r2,.bool r3])∧Drawn0 w w':=by
 have HR0:=am_ hr0
 have HC0:=am_ hc0
 clear hr0 hc0
 have H:(spec_GetNum.l0 k l0 a1 0 0)=some (r1,r2,r3):=h
 clear h
 have H':=am_ H
 clear H
 go_enter Tryz.func147,Tryz.ntmps147
 go_wp2
 go_loopg [7,8] k (fun kq v7 v8 w'=>∃ (x7_1:Int) (x8_1:Int),v7 = .int .i64 x7_1∧v8 = .int .i64 x8_1∧Aside0 (spec_GetNum.l0 kq l0 a1 x7_1 x8_1=some (r1,r2,r3))∧Aside0 (kq≤k)∧Drawn0 w w')
 case atStart => exact ⟨(0),(0),e1_,e1_,H',⟨Nat.le_refl _⟩,dw_⟩
 case round =>
  clear H'
  obtain ⟨x7_1,x8_1,rfl,rfl,HA,HK1,⟨m1,rfl⟩⟩:=hrel
  cases gk with
  | zero=>exact absurd HA.out (by simp [spec_GetNum.l0])
  | succ k1 =>
   have H:=HA.out
   clear HA
   simp only [spec_GetNum.l0] at H
   have HC3:=am_ H
   clear H
   go_upto_region 3 with (fail)
   go_cut [29] (fun v29 wc=>∃ (kq:Nat) (x29_2:Bool),v29 = .bool x29_2∧Aside0 (spec_GetNum.j1 kq l0 a1 x7_1 x8_1 x29_2=some (r1,r2,r3))∧Aside0 (kq≤k1)∧Drawn0 w wc)
   case first =>
    have H:=HC3.out
    clear HC3
    replace H:=itd_ H;obtain ⟨c4b0,H⟩|⟨c4b0,H⟩:=H
    ·(first | rw [c4b0]|(simp only [i64_w,i32_w];rw [c4b0])|skip)
     replace H:=it_ H;obtain ⟨c5,H⟩|⟨c5,H⟩:=H
     ·have c5b0:decide (0≤a1)=true:=decide_eq_true c5
      clear c5
      replace H:=itd_ H;obtain ⟨c6b0,H⟩|⟨c6b0,H⟩:=H
      ·have H':=am_ H
       clear H
       go_wp2
       go_meet
       case rel => exact ⟨_,(decide ((wrap64 (a1+x8_1)) < (l0.length:Int))),e1_,H',⟨by have:=HK1.out;first|omega|exact Nat.le_refl _⟩,dw_⟩
      ·have H':=am_ H
       clear H
       go_wp2
       go_meet
       case rel => exact ⟨_,(false),e1_,H',⟨by have:=HK1.out;first|omega|exact Nat.le_refl _⟩,dw_⟩
     ·have c5b0:decide (0≤a1)=false:=decide_eq_false c5
      clear c5
      have H':=am_ H
      clear H
      go_wp2
      go_meet
      case rel => exact ⟨_,(false),e1_,H',⟨by have:=HK1.out;first|omega|exact Nat.le_refl _⟩,dw_⟩
    ·(first | rw [c4b0]|(simp only [i64_w,i32_w];rw [c4b0])|skip)
     have H':=am_ H
     clear H
     go_wp2
     go_meet
     case rel => exact ⟨_,(false),e1_,H',⟨by have:=HK1.out;first|omega|exact Nat.le_refl _⟩,dw_⟩
   case rest =>
    clear HC3
    try clear c1
    try clear p2
    obtain ⟨kq,x29_2,rfl,HA,HJ2,⟨mc2,rfl⟩⟩:=hcut
    cases kq with
    | zero=>exact absurd HA.out (by simp [spec_GetNum.j1])
    | succ kj2 =>
     have H:=HA.out
     clear HA
     simp only [spec_GetNum.j1] at H
     replace H:=itb_ H;obtain ⟨rfl,H⟩|⟨rfl,H⟩:=H
     ·generalize hji8:(wrap64 (a1+x8_1))=ji8 at H
      have hji8w:(IntKind.i64.wrap (a1+x8_1))=ji8:=(i64_w _).trans hji8
      replace H:=ipd_ H;obtain ⟨c9b0,H⟩:=H
      replace H:=ipd_ H;obtain ⟨c10b0,H⟩:=H
      generalize hji11:(IntKind.u64.wrap (wrap64 (7 * x8_1)))=ji11 at H
      replace H:=ip_ H;obtain ⟨c12,H⟩:=H
      have c12b0:=eq_true c12
      have c12b1:=decide_eq_true c12
      clear c12
      generalize hji13:(shl .i64 (Go.bits .and .i64 (wrap64 (rd l0 (ji8))) 127) (ji11))=ji13 at H
      have hji13_:(IntKind.i64.wrap ((Go.bits .and .i64 (wrap64 (rd l0 (ji8))) 127) * 2 ^ min (ji11).toNat 64))=ji13:=hji13
      have hji13z:(ji11)≤64->(IntKind.i64.wrap ((Go.bits .and .i64 (wrap64 (rd l0 (ji8))) 127) * 2 ^ (ji11).toNat))=ji13:=shl_small hji13
      have hji13y:(wrap64 ((Go.bits .and .i64 (wrap64 (rd l0 (ji8))) 127) * 2 ^ min (ji11).toNat 64))=ji13:=(i64_w _).symm.trans hji13_
      have hji13x:(ji11)≤64->(wrap64 ((Go.bits .and .i64 (wrap64 (rd l0 (ji8))) 127) * 2 ^ (ji11).toNat))=ji13:=fun h_=>(i64_w _).symm.trans (hji13z h_)
      replace H:=it_ H;obtain ⟨c14,H⟩|⟨c14,H⟩:=H
      ·have c14b0:decide (127 < (wrap64 (rd l0 (ji8))))=true:=decide_eq_true c14
       clear c14
       have H':=am_ H
       clear H
       obtain ⟨ad1,e601,hx1_0,p601,q1⟩:=ai_ HR0.out (ji8)
       cases e601
       go_wp2
       go_roundg kj2
       case measure => have:=HK1.out;have:=HJ2.out;omega
       case rel => exact ⟨(Go.bits .or .i64 x7_1 (ji13)),(wrap64 (x8_1+1)),(by first|rfl|(simp;done)|(simp only [← hji13] <;> (first|rfl|simp))|(simp [*];done)),e1_,H',⟨by have:=HK1.out;have:=HJ2.out;omega⟩,dw_⟩
      ·have c14b0:decide (127 < (wrap64 (rd l0 (ji8))))=false:=decide_eq_false c14
       clear c14
       replace H:=it_ H;obtain ⟨c15,H⟩|⟨c15,H⟩:=H
       ·have c15b0:decide (0 < x8_1)=true:=decide_eq_true c15
        clear c15
        replace H:=it_ H;obtain ⟨c16,H⟩|⟨c16,H⟩:=H
        ·have c16b0:((wrap64 (rd l0 (ji8))) == 0)=true:=beq_iff_eq.mpr c16
         have c16b1:((wrap64 (rd l0 (ji8))) != 0)=false:=bne_eq_false_iff_eq.mpr c16
         clear c16
         replace H:=so3_ H;obtain ⟨rfl,rfl,rfl⟩:=H
         obtain ⟨ad1,e601,hx1_0,p601,q1⟩:=ai_ HR0.out (ji8)
         cases e601
         go_wp2
         go_ret3
         exact ⟨by first|rfl|(simp;done)|(simp only [← hji8,← hji11,← hji13] <;> (first|rfl|simp))|(simp [*];done),dw_⟩
        ·have c16b0:((wrap64 (rd l0 (ji8))) == 0)=false:=beq_eq_false_iff_ne.mpr c16
         have c16b1:((wrap64 (rd l0 (ji8))) != 0)=true:=bne_iff_ne.mpr c16
         replace H:=it_ H;obtain ⟨c17,H⟩|⟨c17,H⟩:=H
         ·have c17b0:decide (1000000000 < (Go.bits .or .i64 x7_1 (ji13)))=true:=decide_eq_true c17
          clear c17
          replace H:=so3_ H;obtain ⟨rfl,rfl,rfl⟩:=H
          obtain ⟨ad1,e601,hx1_0,p601,q1⟩:=ai_ HR0.out (ji8)
          cases e601
          go_wp2
          go_ret3
          exact ⟨by first|rfl|(simp;done)|(simp only [← hji8,← hji11,← hji13] <;> (first|rfl|simp))|(simp [*];done),dw_⟩
         ·have c17b0:decide (1000000000 < (Go.bits .or .i64 x7_1 (ji13)))=false:=decide_eq_false c17
          clear c17
          replace H:=so3_ H;obtain ⟨rfl,rfl,rfl⟩:=H
          obtain ⟨ad1,e601,hx1_0,p601,q1⟩:=ai_ HR0.out (ji8)
          cases e601
          go_wp2
          go_ret3
          exact ⟨by first|rfl|(simp;done)|(simp only [← hji8,← hji11,← hji13] <;> (first|rfl|simp))|(simp [*];done),dw_⟩
       ·have c15b0:decide (0 < x8_1)=false:=decide_eq_false c15
        clear c15
        replace H:=it_ H;obtain ⟨c18,H⟩|⟨c18,H⟩:=H
        ·have c18b0:decide (1000000000 < (Go.bits .or .i64 x7_1 (ji13)))=true:=decide_eq_true c18
         clear c18
         replace H:=so3_ H;obtain ⟨rfl,rfl,rfl⟩:=H
         obtain ⟨ad1,e601,hx1_0,p601,q1⟩:=ai_ HR0.out (ji8)
         cases e601
         go_wp2
         go_ret3
         exact ⟨by first|rfl|(simp;done)|(simp only [← hji8,← hji11,← hji13] <;> (first|rfl|simp))|(simp [*];done),dw_⟩
        ·have c18b0:decide (1000000000 < (Go.bits .or .i64 x7_1 (ji13)))=false:=decide_eq_false c18
         clear c18
         replace H:=so3_ H;obtain ⟨rfl,rfl,rfl⟩:=H
         obtain ⟨ad1,e601,hx1_0,p601,q1⟩:=ai_ HR0.out (ji8)
         cases e601
         go_wp2
         go_ret3
         exact ⟨by first|rfl|(simp;done)|(simp only [← hji8,← hji11,← hji13] <;> (first|rfl|simp))|(simp [*];done),dw_⟩
     ·replace H:=so3_ H;obtain ⟨rfl,rfl,rfl⟩:=H
      go_wp2
      go_ret3
      exact ⟨e1_,dw_⟩
def spec_GetText.f (k:Nat) (l0:List Int) (a1:Int):Option (ByteArray × Int × Bool):=(spec_GetNum.f k l0 a1).bind fun bt1=>(if bt1.2.2=true then (if bt1.1 > (wrap64 ((l0.length:Int) - bt1.2.1)) then (some ((⟨#[]⟩:ByteArray),0,false)) else (if 0≤bt1.2.1 then (if bt1.2.1≤(wrap64 (bt1.2.1+bt1.1)) then (if (wrap64 (bt1.2.1+bt1.1))≤(l0.length:Int) then (some (strOfNums ((l0.take ((wrap64 (bt1.2.1+bt1.1)):Int).toNat).drop (bt1.2.1:Int).toNat),wrap64 (bt1.2.1+bt1.1),true)) else (none)) else (none)) else (none))) else (some ((⟨#[]⟩:ByteArray),0,false)))
theorem spec_GetText.calls (k:Nat) (A0:Option Addr) (c0:Nat) (l0:List Int) (a1:Int) (r1:ByteArray) (r2:Int) (r3:Bool) (w:World) (hr0:Kd.C (Kd.int .u8) w A0 l0.length l0) (hc0:l0.length≤c0) (h:spec_GetText.f k l0 a1=some (r1,r2,r3)) :
  Calls Tryz.prog 148 #[.slice A0 l0.length c0,.int .i64 a1] w fun e w'=>e = .returned (.tuple #[.string r1,.int .i64 r2,.bool r3])∧Drawn0 w w':=by
 have HR0:=am_ hr0
 have HC0:=am_ hc0
 clear hr0 hc0
 have H:((spec_GetNum.f k l0 a1).bind fun bt1=>(if bt1.2.2=true then (if bt1.1 > (wrap64 ((l0.length:Int) - bt1.2.1)) then (some ((⟨#[]⟩:ByteArray),0,false)) else (if 0≤bt1.2.1 then (if bt1.2.1≤(wrap64 (bt1.2.1+bt1.1)) then (if (wrap64 (bt1.2.1+bt1.1))≤(l0.length:Int) then (some (strOfNums ((l0.take ((wrap64 (bt1.2.1+bt1.1)):Int).toNat).drop (bt1.2.1:Int).toNat),wrap64 (bt1.2.1+bt1.1),true)) else (none)) else (none)) else (none))) else (some ((⟨#[]⟩:ByteArray),0,false))))=some (r1,r2,r3):=h
 clear h
 replace H:=bi_ H;obtain ⟨⟨t1,t602,t3⟩,A3,H⟩:=H
 dsimp only at H
 replace H:=itb_ H;obtain ⟨rfl,H⟩|⟨rfl,H⟩:=H
 ·replace H:=it_ H;obtain ⟨c5,H⟩|⟨c5,H⟩:=H
  ·have c5b0:decide ((wrap64 ((l0.length:Int) - t602)) < t1)=true:=decide_eq_true c5
   clear c5
   replace H:=so3_ H;obtain ⟨rfl,rfl,rfl⟩:=H
   go_enter Tryz.func148,Tryz.ntmps148
   go_wp2_with (first|((with_reducible refine gq_ 147 13 ?_);refine gc_ 13 Tryz.func147 (spec_GetNum.calls k _ _ l0 a1 t1 t602 true _ (cr_ HR0.out) HC0.out A3.out) ?_;rintro e w' ⟨rfl,⟨nd,rfl⟩⟩;refine ⟨_,rfl,?_⟩))
   go_ret3
   exact ⟨e1_,dw_⟩
  ·have c5b0:decide ((wrap64 ((l0.length:Int) - t602)) < t1)=false:=decide_eq_false c5
   clear c5
   replace H:=ip_ H;obtain ⟨c6,H⟩:=H
   have c6b0:=eq_true c6
   have c6b1:=decide_eq_true c6
   clear c6
   replace H:=ip_ H;obtain ⟨c7,H⟩:=H
   have c7b0:=eq_true c7
   have c7b1:=decide_eq_true c7
   replace H:=ip_ H;obtain ⟨c8,H⟩:=H
   have c8b0:=eq_true c8
   have c8b1:=decide_eq_true c8
   replace H:=so3_ H;obtain ⟨rfl,rfl,rfl⟩:=H
   go_enter Tryz.func148,Tryz.ntmps148
   go_wp2_with (first|((with_reducible refine gq_ 147 13 ?_);refine gc_ 13 Tryz.func147 (spec_GetNum.calls k _ _ l0 a1 t1 t602 true _ (cr_ HR0.out) HC0.out A3.out) ?_;rintro e w' ⟨rfl,⟨nd,rfl⟩⟩;refine ⟨_,rfl,?_⟩;obtain ⟨i09,hi09,_,hsz9,_⟩:=info_parts info5;obtain ⟨A9,hcut9,hA9,hC9⟩:=print_mid_of (P:=Tryz.prog) (Value.int .u8) 0 27 5 .i64 .i64 Tryz.underlying27 hi09 hsz9 A0 c0 l0 t602 (wrap64 (t602+t1)) (od_) (by first|omega|exact od_) (od_) HC0.out;have HR4:=am_ (Kd.C_of_reads (h1:=fun _=>rfl) (hA9 _ (Kd.reads_of_C HR0.out)));have HC4:=am_ hC9;clear hA9 hC9 hi09 hsz9;have hcv10:=Kd.C_string (P:=Tryz.prog) (A:=A9) (c:=(c0 - t602.toNat)) Tryz.underlying27 Tryz.underlying5 Tryz.underlying9 (Kd.C_drewN HR4.out nd);have hcvq10:=hcv10;rw [show ((l0.take ((wrap64 (t602+t1)):Int).toNat).drop (t602:Int).toNat).length=((wrap64 (t602+t1)).toNat - t602.toNat) from (by rw [List.length_drop,List.length_take];have h_:((wrap64 (t602+t1)):Int)≤(l0.length:Int):=od_;omega)] at hcvq10))
   go_ret3
   exact ⟨e1_,dw_⟩
 ·replace H:=so3_ H;obtain ⟨rfl,rfl,rfl⟩:=H
  go_enter Tryz.func148,Tryz.ntmps148
  go_wp2_with (first|((with_reducible refine gq_ 147 13 ?_);refine gc_ 13 Tryz.func147 (spec_GetNum.calls k _ _ l0 a1 t1 t602 false _ (cr_ HR0.out) HC0.out A3.out) ?_;rintro e w' ⟨rfl,⟨nd,rfl⟩⟩;refine ⟨_,rfl,?_⟩))
  go_ret3
  exact ⟨e1_,dw_⟩
def impl_GetText.f (k:Nat) (l0:List Int) (a1:Int):Option (ByteArray × Int × Bool):=(impl_GetNum.f k l0 a1).bind fun bt1=>(if bt1.2.2=true then (if bt1.1 > (wrap64 ((l0.length:Int) - bt1.2.1)) then (some ((⟨#[]⟩:ByteArray),0,false)) else (if 0≤bt1.2.1 then (if bt1.2.1≤(wrap64 (bt1.2.1+bt1.1)) then (if (wrap64 (bt1.2.1+bt1.1))≤(l0.length:Int) then (some (strOfNums ((l0.take ((wrap64 (bt1.2.1+bt1.1)):Int).toNat).drop (bt1.2.1:Int).toNat),wrap64 (bt1.2.1+bt1.1),true)) else (none)) else (none)) else (none))) else (some ((⟨#[]⟩:ByteArray),0,false)))
theorem impl_GetText.calls (k:Nat) (A0:Option Addr) (c0:Nat) (l0:List Int) (a1:Int) (r1:ByteArray) (r2:Int) (r3:Bool) (w:World) (hr0:Kd.C (Kd.int .u8) w A0 l0.length l0) (hc0:l0.length≤c0) (h:impl_GetText.f k l0 a1=some (r1,r2,r3)) :
  Calls Tryz.prog 130 #[.slice A0 l0.length c0,.int .i64 a1] w fun e w'=>e = .returned (.tuple #[.string r1,.int .i64 r2,.bool r3])∧Drawn0 w w':=by
 have HR0:=am_ hr0
 have HC0:=am_ hc0
 clear hr0 hc0
 have H:((impl_GetNum.f k l0 a1).bind fun bt1=>(if bt1.2.2=true then (if bt1.1 > (wrap64 ((l0.length:Int) - bt1.2.1)) then (some ((⟨#[]⟩:ByteArray),0,false)) else (if 0≤bt1.2.1 then (if bt1.2.1≤(wrap64 (bt1.2.1+bt1.1)) then (if (wrap64 (bt1.2.1+bt1.1))≤(l0.length:Int) then (some (strOfNums ((l0.take ((wrap64 (bt1.2.1+bt1.1)):Int).toNat).drop (bt1.2.1:Int).toNat),wrap64 (bt1.2.1+bt1.1),true)) else (none)) else (none)) else (none))) else (some ((⟨#[]⟩:ByteArray),0,false))))=some (r1,r2,r3):=h
 clear h
 replace H:=bi_ H;obtain ⟨⟨t1,t602,t3⟩,A3,H⟩:=H
 dsimp only at H
 replace H:=itb_ H;obtain ⟨rfl,H⟩|⟨rfl,H⟩:=H
 ·replace H:=it_ H;obtain ⟨c5,H⟩|⟨c5,H⟩:=H
  ·have c5b0:decide ((wrap64 ((l0.length:Int) - t602)) < t1)=true:=decide_eq_true c5
   clear c5
   replace H:=so3_ H;obtain ⟨rfl,rfl,rfl⟩:=H
   go_enter Tryz.func130,Tryz.ntmps130
   go_wp2_with (first|((with_reducible refine gq_ 97 13 ?_);refine gc_ 13 Tryz.func97 (impl_GetNum.calls k _ _ l0 a1 t1 t602 true _ (cr_ HR0.out) HC0.out A3.out) ?_;rintro e w' ⟨rfl,⟨nd,rfl⟩⟩;refine ⟨_,rfl,?_⟩))
   go_ret3
   exact ⟨e1_,dw_⟩
  ·have c5b0:decide ((wrap64 ((l0.length:Int) - t602)) < t1)=false:=decide_eq_false c5
   clear c5
   replace H:=ip_ H;obtain ⟨c6,H⟩:=H
   have c6b0:=eq_true c6
   have c6b1:=decide_eq_true c6
   clear c6
   replace H:=ip_ H;obtain ⟨c7,H⟩:=H
   have c7b0:=eq_true c7
   have c7b1:=decide_eq_true c7
   replace H:=ip_ H;obtain ⟨c8,H⟩:=H
   have c8b0:=eq_true c8
   have c8b1:=decide_eq_true c8
   replace H:=so3_ H;obtain ⟨rfl,rfl,rfl⟩:=H
   go_enter Tryz.func130,Tryz.ntmps130
   go_wp2_with (first|((with_reducible refine gq_ 97 13 ?_);refine gc_ 13 Tryz.func97 (impl_GetNum.calls k _ _ l0 a1 t1 t602 true _ (cr_ HR0.out) HC0.out A3.out) ?_;rintro e w' ⟨rfl,⟨nd,rfl⟩⟩;refine ⟨_,rfl,?_⟩;obtain ⟨i09,hi09,_,hsz9,_⟩:=info_parts info5;obtain ⟨A9,hcut9,hA9,hC9⟩:=print_mid_of (P:=Tryz.prog) (Value.int .u8) 0 27 5 .i64 .i64 Tryz.underlying27 hi09 hsz9 A0 c0 l0 t602 (wrap64 (t602+t1)) (od_) (by first|omega|exact od_) (od_) HC0.out;have HR4:=am_ (Kd.C_of_reads (h1:=fun _=>rfl) (hA9 _ (Kd.reads_of_C HR0.out)));have HC4:=am_ hC9;clear hA9 hC9 hi09 hsz9;have hcv10:=Kd.C_string (P:=Tryz.prog) (A:=A9) (c:=(c0 - t602.toNat)) Tryz.underlying27 Tryz.underlying5 Tryz.underlying9 (Kd.C_drewN HR4.out nd);have hcvq10:=hcv10;rw [show ((l0.take ((wrap64 (t602+t1)):Int).toNat).drop (t602:Int).toNat).length=((wrap64 (t602+t1)).toNat - t602.toNat) from (by rw [List.length_drop,List.length_take];have h_:((wrap64 (t602+t1)):Int)≤(l0.length:Int):=od_;omega)] at hcvq10))
   go_ret3
   exact ⟨e1_,dw_⟩
 ·replace H:=so3_ H;obtain ⟨rfl,rfl,rfl⟩:=H
  go_enter Tryz.func130,Tryz.ntmps130
  go_wp2_with (first|((with_reducible refine gq_ 97 13 ?_);refine gc_ 13 Tryz.func97 (impl_GetNum.calls k _ _ l0 a1 t1 t602 false _ (cr_ HR0.out) HC0.out A3.out) ?_;rintro e w' ⟨rfl,⟨nd,rfl⟩⟩;refine ⟨_,rfl,?_⟩))
  go_ret3
  exact ⟨e1_,dw_⟩
mutual
def spec_GetTexts.j0:Nat->List Int->Int->Int->Bool->Option (List ByteArray × Int × Bool)
 | 0,_,_,_,_=>none
 | k+1,x0,x7,x8,x27=>if x27=true then (some ((([]:List ByteArray)),0,false)) else (spec_GetTexts.l0 k x0 x7 x8 (([]:List ByteArray)) 0)
def spec_GetTexts.l0:Nat->List Int->Int->Int->List ByteArray->Int->Option (List ByteArray × Int × Bool)
 | 0,_,_,_,_,_=>none
 | k+1,x0,x7,x8,x10,x11=>if x11 < x7 then ((spec_GetText.f k x0 x8).bind fun bt10=>(if bt10.2.2=true then (if x10.length < 8796093022208 then (spec_GetTexts.l0 k x0 x7 bt10.2.1 (x10 ++ [bt10.1]) (wrap64 (x11+1))) else (none)) else (some ((([]:List ByteArray)),0,false)))) else (some (x10,x8,true))
end
def spec_GetTexts.f (k:Nat) (l0:List Int) (a1:Int):Option (List ByteArray × Int × Bool):=(spec_GetNum.f k l0 a1).bind fun bt1=>(if bt1.2.2=true then (spec_GetTexts.j0 k l0 bt1.1 bt1.2.1 (decide (bt1.1 > 200))) else (spec_GetTexts.j0 k l0 bt1.1 bt1.2.1 true))
theorem spec_GetTexts.calls (k:Nat) (A0:Option Addr) (c0:Nat) (l0:List Int) (a1:Int) (r1:List ByteArray) (r2:Int) (r3:Bool) (w:World) (hr0:Kd.C (Kd.int .u8) w A0 l0.length l0) (hc0:l0.length≤c0) (h:spec_GetTexts.f k l0 a1=some (r1,r2,r3)) :
  Calls Tryz.prog 149 #[.slice A0 l0.length c0,.int .i64 a1] w fun e w'=>∃ v0_:Value,e = .returned (.tuple #[v0_,.int .i64 r2,.bool r3])∧Kd.R Kd.string 9 w' w.heap.size (fun _=>True) v0_ r1∧Below w.heap.size w w':=by
 have HR0:=am_ hr0
 have HC0:=am_ hc0
 clear hr0 hc0
 have HB:=h0_ w
 have H:((spec_GetNum.f k l0 a1).bind fun bt1=>(if bt1.2.2=true then (spec_GetTexts.j0 k l0 bt1.1 bt1.2.1 (decide (bt1.1 > 200))) else (spec_GetTexts.j0 k l0 bt1.1 bt1.2.1 true)))=some (r1,r2,r3):=h
 clear h
 replace H:=bi_ H;obtain ⟨⟨t1,t602,t3⟩,A3,H⟩:=H
 dsimp only at H
 have HC4:=am_ H
 clear H
 go_enter Tryz.func149,Tryz.ntmps149
 go_upto_region 2 with (first|((with_reducible refine gq_ 147 18 ?_);refine gc_ 18 Tryz.func147 (spec_GetNum.calls k _ _ l0 a1 t1 t602 t3 _ (cr_ HR0.out) HC0.out A3.out) ?_;rintro e w' ⟨rfl,⟨nd,rfl⟩⟩;refine ⟨_,rfl,?_⟩))
 (try simp only [Act.put,List.setIfInBounds_toArray,List.set_cons_zero,List.set_cons_succ])
 go_cut [27] (fun v27 wc=>∃ (kq:Nat) (x27_3:Bool),v27 = .bool x27_3∧Aside0 (spec_GetTexts.j0 kq l0 t1 t602 x27_3=some (r1,r2,r3))∧Aside0 (kq≤k)∧Aside0 (Below w.heap.size w wc))
 case first =>
  have H:=HC4.out
  clear HC4
  replace H:=itb_ H;obtain ⟨rfl,H⟩|⟨rfl,H⟩:=H
  ·have H':=am_ H
   clear H
   go_wp2
   go_meet
   case rel => exact ⟨_,(decide (t1 > 200)),e1_,H',⟨le_⟩,⟨bw_ HB⟩⟩
  ·have H':=am_ H
   clear H
   go_wp2
   go_meet
   case rel => exact ⟨_,(true),e1_,H',⟨le_⟩,⟨bw_ HB⟩⟩
 case rest =>
  clear HC4
  obtain ⟨kq,x27_3,rfl,HA,HJ3,HB⟩:=hcut
  cases kq with
  | zero=>exact absurd HA.out (by simp [spec_GetTexts.j0])
  | succ kj3 =>
   have H:=HA.out
   clear HA
   simp only [spec_GetTexts.j0] at H
   replace H:=itb_ H;obtain ⟨rfl,H⟩|⟨rfl,H⟩:=H
   ·obtain ⟨y604,hy4⟩:∃ y_:List ByteArray,y_=(([]:List ByteArray)):=⟨_,rfl⟩
    replace H:(some (y604,0,false))=some (r1,r2,r3):=yh_ hy4 H
    have Ny4:=am_ hy4
    clear hy4
    replace H:=so3_ H;obtain ⟨rfl,rfl,rfl⟩:=H
    go_wp2_with (first|((with_reducible refine gd_ 28 ?_);refine rl_ Kd.string 9 28 ([]:List ByteArray) [] ?_;intro v5 w7 ho8 hb hg_ hnew_;clear hg_ hnew_;(first|rw [← Ny4.out] at ho8|(simp only [Int.reduceToNat] at ho8;rw [← Ny4.out] at ho8));have HO6:=rlo_ ho8 HB;replace HB:=ss_ HB hb;clear hb ho8))
    go_ret3
    exact ⟨_,e2_,kr_ HO6.out,bw_ HB⟩
   ·obtain ⟨y607,hy7⟩:∃ y_:List ByteArray,y_=(([]:List ByteArray)):=⟨_,rfl⟩
    replace H:(spec_GetTexts.l0 kj3 l0 t1 t602 y607 0)=some (r1,r2,r3):=yh_ hy7 H
    have Ny7:=am_ hy7
    clear hy7
    have H':=am_ H
    clear H
    go_wp2_with (first|((with_reducible refine gd_ 29 ?_);refine rl_ Kd.string 9 29 ([]:List ByteArray) [] ?_;intro v608 w9 ho10 hb hg_ hnew_;clear hg_ hnew_;(first|rw [← Ny7.out] at ho10|(simp only [Int.reduceToNat] at ho10;rw [← Ny7.out] at ho10));have HO9:=rlo_ ho10 HB;replace HB:=ss_ HB hb;clear hb ho10))
    go_loopg [8,10,11] kj3 (fun kq v8 v10 v11 w'=>∃ (x8_2:Int) (x10_2:List ByteArray) (x11_2:Int),v8 = .int .i64 x8_2∧v11 = .int .i64 x11_2∧Aside0 (spec_GetTexts.l0 kq l0 t1 x8_2 x10_2 x11_2=some (r1,r2,r3))∧Aside0 (kq≤kj3)∧Aside0 (Kd.R Kd.string 9 w' w.heap.size (fun _=>True) v10 x10_2)∧Aside0 (Below w.heap.size w w'))
    case atStart => exact ⟨(t602),(y607),(0),e1_,e1_,H',⟨Nat.le_refl _⟩,⟨kr_ HO9.out⟩,⟨bw_ HB⟩⟩
    case round =>
     clear H'
     try clear c1
     try clear p2
     try clear c5
     obtain ⟨x8_2,x10_2,x11_2,rfl,rfl,HA,HK2,HO_10,HB⟩:=hrel
     cases gk with
     | zero=>exact absurd HA.out (by simp [spec_GetTexts.l0])
     | succ k2 =>
      have H:=HA.out
      clear HA
      simp only [spec_GetTexts.l0] at H
      replace H:=itd_ H;obtain ⟨c11b0,H⟩|⟨c11b0,H⟩:=H
      ·replace H:=bi_ H;obtain ⟨⟨t10,t11,t12⟩,A12,H⟩:=H
       dsimp only at H
       replace H:=itb_ H;obtain ⟨rfl,H⟩|⟨rfl,H⟩:=H
       ·replace H:=ip_ H;obtain ⟨c14,H⟩:=H
        have LMc14:=am_ c14
        clear c14
        obtain ⟨y13,hy13⟩:∃ y_:List ByteArray,y_=(x10_2 ++ [t10]):=⟨_,rfl⟩
        replace H:(spec_GetTexts.l0 k2 l0 t1 t11 y13 (wrap64 (x11_2+1)))=some (r1,r2,r3):=yh_ hy13 H
        have Ny13:=am_ hy13
        clear hy13
        have H':=am_ H
        clear H
        go_wp2_with (first|((with_reducible refine gq_ 148 38 ?_);refine gc_ 38 Tryz.func148 (spec_GetText.calls k2 _ _ l0 x8_2 t10 t11 true _ (cb_ HR0 HB) HC0.out A12.out) ?_;rintro e w' ⟨rfl,⟨nd,rfl⟩⟩;refine ⟨_,rfl,?_⟩)|((with_reducible refine gate_builtin (b:=.append) (xs:=#[.tmp 45,.tmp 47]) rfl ?_);at_builtin;refine Kd.R_append Kd.string (w0:=w) w.heap.size rfl (.tmp 45) (.tmp 47) 22 9 (.string ⟨#[]⟩) 16 rfl Tryz.underlying22 info9 rfl (by decide) (by omega) u10 x10_2 t10 [.string t10] (fun _=>True) (fun _=>False) rfl rfl ?aP (fun _ hk=>hk.elim) ?aF ?aO ?aB ?aS ?aL ?_;(case aP=>exact rfl);(case aB=>exact (bw_ HB));(case aF=>exact (fun _ _=>trivial));(case aO=>exact (kr_ HO_10.out));(case aS=>exact (sz_ HB));(case aL=>have:=LMc14.out;omega);intro v14 w15 ho hb hg hat;rw [← Ny13.out] at ho;replace HB:=am_ hb;have HO15:=am_ ho;clear HO_10;clear ho hb hg hat))
        go_roundg k2
        case measure => have:=HJ3.out;have:=HK2.out;omega
        case rel => exact ⟨(t11),(y13),(wrap64 (x11_2+1)),e1_,e1_,H',⟨by have:=HJ3.out;have:=HK2.out;omega⟩,⟨kr_ HO15.out⟩,⟨bw_ HB⟩⟩
       ·obtain ⟨y16,hy16⟩:∃ y_:List ByteArray,y_=(([]:List ByteArray)):=⟨_,rfl⟩
        replace H:(some (y16,0,false))=some (r1,r2,r3):=yh_ hy16 H
        have Ny16:=am_ hy16
        clear hy16
        replace H:=so3_ H;obtain ⟨rfl,rfl,rfl⟩:=H
        go_wp2_with (first|((with_reducible refine gq_ 148 38 ?_);refine gc_ 38 Tryz.func148 (spec_GetText.calls k2 _ _ l0 x8_2 t10 t11 false _ (cb_ HR0 HB) HC0.out A12.out) ?_;rintro e w' ⟨rfl,⟨nd,rfl⟩⟩;refine ⟨_,rfl,?_⟩)|((with_reducible refine gd_ 44 ?_);refine rl_ Kd.string 9 44 ([]:List ByteArray) [] ?_;intro v17 w16 ho17 hb hg_ hnew_;clear hg_ hnew_;(first|rw [← Ny16.out] at ho17|(simp only [Int.reduceToNat] at ho17;rw [← Ny16.out] at ho17));have HO18:=am_ (Kd.R_lower (Kd.R_new' ho17 (lt_ HO_10)) (sz_ HB));replace HO_10:=re_ HO_10 ho17 hb;replace HB:=ss_ HB hb;clear hb ho17))
        go_ret3
        exact ⟨_,e2_,km_ HO18,bw_ HB⟩
      ·replace H:=so3_ H;obtain ⟨rfl,rfl,rfl⟩:=H
       go_wp2
       go_ret3
       exact ⟨_,e2_,kr_ HO_10.out,bw_ HB⟩
mutual
def impl_GetTexts.j0:Nat->List Int->Int->Int->Bool->Option (List ByteArray × Int × Bool)
 | 0,_,_,_,_=>none
 | k+1,x0,x7,x8,x26=>if x26=true then (some (([]:List ByteArray),0,false)) else (impl_GetTexts.l0 k x0 x8 ([]:List ByteArray) x7 0)
def impl_GetTexts.l0:Nat->List Int->Int->List ByteArray->Int->Int->Option (List ByteArray × Int × Bool)
 | 0,_,_,_,_,_=>none
 | k+1,x0,x8,x10,x27,x28=>if x28 < x27 then ((impl_GetText.f k x0 x8).bind fun bt4=>(if bt4.2.2=true then (if x10.length < 8796093022208 then (impl_GetTexts.l0 k x0 bt4.2.1 (x10 ++ [bt4.1]) x27 (wrap64 (x28+1))) else (none)) else (some (([]:List ByteArray),0,false)))) else (some (x10,x8,true))
end
def impl_GetTexts.f (k:Nat) (l0:List Int) (a1:Int):Option (List ByteArray × Int × Bool):=(impl_GetNum.f k l0 a1).bind fun bt1=>(if bt1.2.2=true then (impl_GetTexts.j0 k l0 bt1.1 bt1.2.1 (decide (bt1.1 > 200))) else (impl_GetTexts.j0 k l0 bt1.1 bt1.2.1 true))
theorem impl_GetTexts.calls (k:Nat) (A0:Option Addr) (c0:Nat) (l0:List Int) (a1:Int) (r1:List ByteArray) (r2:Int) (r3:Bool) (w:World) (hr0:Kd.C (Kd.int .u8) w A0 l0.length l0) (hc0:l0.length≤c0) (h:impl_GetTexts.f k l0 a1=some (r1,r2,r3)) :
  Calls Tryz.prog 131 #[.slice A0 l0.length c0,.int .i64 a1] w fun e w'=>∃ v0_:Value,e = .returned (.tuple #[v0_,.int .i64 r2,.bool r3])∧Kd.R Kd.string 9 w' w.heap.size (fun _=>True) v0_ r1∧Below w.heap.size w w':=by
 have HR0:=am_ hr0
 have HC0:=am_ hc0
 clear hr0 hc0
 have HB:=h0_ w
 have H:((impl_GetNum.f k l0 a1).bind fun bt1=>(if bt1.2.2=true then (impl_GetTexts.j0 k l0 bt1.1 bt1.2.1 (decide (bt1.1 > 200))) else (impl_GetTexts.j0 k l0 bt1.1 bt1.2.1 true)))=some (r1,r2,r3):=h
 clear h
 replace H:=bi_ H;obtain ⟨⟨t1,t602,t3⟩,A3,H⟩:=H
 dsimp only at H
 have HC4:=am_ H
 clear H
 go_enter Tryz.func131,Tryz.ntmps131
 go_upto_region 2 with (first|((with_reducible refine gq_ 97 17 ?_);refine gc_ 17 Tryz.func97 (impl_GetNum.calls k _ _ l0 a1 t1 t602 t3 _ (cr_ HR0.out) HC0.out A3.out) ?_;rintro e w' ⟨rfl,⟨nd,rfl⟩⟩;refine ⟨_,rfl,?_⟩))
 (try simp only [Act.put,List.setIfInBounds_toArray,List.set_cons_zero,List.set_cons_succ])
 go_cut [26] (fun v26 wc=>∃ (kq:Nat) (x26_3:Bool),v26 = .bool x26_3∧Aside0 (impl_GetTexts.j0 kq l0 t1 t602 x26_3=some (r1,r2,r3))∧Aside0 (kq≤k)∧Aside0 (Below w.heap.size w wc))
 case first =>
  have H:=HC4.out
  clear HC4
  replace H:=itb_ H;obtain ⟨rfl,H⟩|⟨rfl,H⟩:=H
  ·have H':=am_ H
   clear H
   go_wp2
   go_meet
   case rel => exact ⟨_,(decide (t1 > 200)),e1_,H',⟨le_⟩,⟨bw_ HB⟩⟩
  ·have H':=am_ H
   clear H
   go_wp2
   go_meet
   case rel => exact ⟨_,(true),e1_,H',⟨le_⟩,⟨bw_ HB⟩⟩
 case rest =>
  clear HC4
  obtain ⟨kq,x26_3,rfl,HA,HJ3,HB⟩:=hcut
  cases kq with
  | zero=>exact absurd HA.out (by simp [impl_GetTexts.j0])
  | succ kj3 =>
   have H:=HA.out
   clear HA
   simp only [impl_GetTexts.j0] at H
   replace H:=itb_ H;obtain ⟨rfl,H⟩|⟨rfl,H⟩:=H
   ·replace H:=so3_ H;obtain ⟨rfl,rfl,rfl⟩:=H
    go_wp2
    go_ret3
    exact ⟨_,e2_,nil_,bw_ HB⟩
   ·have H':=am_ H
    clear H
    go_wp2
    go_loopg [8,10,28] kj3 (fun kq v8 v10 v28 w'=>∃ (x8_2:Int) (x10_2:List ByteArray) (x28_2:Int),v8 = .int .i64 x8_2∧v28 = .int .i64 x28_2∧Aside0 (impl_GetTexts.l0 kq l0 x8_2 x10_2 t1 x28_2=some (r1,r2,r3))∧Aside0 (kq≤kj3)∧Aside0 (Kd.R Kd.string 9 w' w.heap.size (fun _=>True) v10 x10_2)∧Aside0 (Below w.heap.size w w'))
    case atStart => exact ⟨(t602),(([]:List ByteArray)),(0),e1_,e1_,H',⟨Nat.le_refl _⟩,⟨nil_⟩,⟨bw_ HB⟩⟩
    case round =>
     clear H'
     try clear c1
     try clear p2
     try clear c5
     obtain ⟨x8_2,x10_2,x28_2,rfl,rfl,HA,HK2,HO_10,HB⟩:=hrel
     cases gk with
     | zero=>exact absurd HA.out (by simp [impl_GetTexts.l0])
     | succ k2 =>
      have H:=HA.out
      clear HA
      simp only [impl_GetTexts.l0] at H
      replace H:=itd_ H;obtain ⟨c7b0,H⟩|⟨c7b0,H⟩:=H
      ·replace H:=bi_ H;obtain ⟨⟨t4,t5,t6⟩,A8,H⟩:=H
       dsimp only at H
       replace H:=itb_ H;obtain ⟨rfl,H⟩|⟨rfl,H⟩:=H
       ·replace H:=ip_ H;obtain ⟨c10,H⟩:=H
        have LMc10:=am_ c10
        clear c10
        obtain ⟨y607,hy7⟩:∃ y_:List ByteArray,y_=(x10_2 ++ [t4]):=⟨_,rfl⟩
        replace H:(impl_GetTexts.l0 k2 l0 t5 y607 t1 (wrap64 (x28_2+1)))=some (r1,r2,r3):=yh_ hy7 H
        have Ny7:=am_ hy7
        clear hy7
        have H':=am_ H
        clear H
        go_wp2_with (first|((with_reducible refine gq_ 130 33 ?_);refine gc_ 33 Tryz.func130 (impl_GetText.calls k2 _ _ l0 x8_2 t4 t5 true _ (cb_ HR0 HB) HC0.out A8.out) ?_;rintro e w' ⟨rfl,⟨nd,rfl⟩⟩;refine ⟨_,rfl,?_⟩)|((with_reducible refine gate_builtin (b:=.append) (xs:=#[.tmp 39,.tmp 41]) rfl ?_);at_builtin;refine Kd.R_append Kd.string (w0:=w) w.heap.size rfl (.tmp 39) (.tmp 41) 22 9 (.string ⟨#[]⟩) 16 rfl Tryz.underlying22 info9 rfl (by decide) (by omega) u10 x10_2 t4 [.string t4] (fun _=>True) (fun _=>False) rfl rfl ?aP (fun _ hk=>hk.elim) ?aF ?aO ?aB ?aS ?aL ?_;(case aP=>exact rfl);(case aB=>exact (bw_ HB));(case aF=>exact (fun _ _=>trivial));(case aO=>exact (kr_ HO_10.out));(case aS=>exact (sz_ HB));(case aL=>have:=LMc10.out;omega);intro v608 w11 ho hb hg hat;rw [← Ny7.out] at ho;replace HB:=am_ hb;have HO9:=am_ ho;clear HO_10;clear ho hb hg hat))
        go_roundg k2
        case measure => have:=HJ3.out;have:=HK2.out;omega
        case rel => exact ⟨(t5),(y607),(wrap64 (x28_2+1)),e1_,e1_,H',⟨by have:=HJ3.out;have:=HK2.out;omega⟩,⟨kr_ HO9.out⟩,⟨bw_ HB⟩⟩
       ·replace H:=so3_ H;obtain ⟨rfl,rfl,rfl⟩:=H
        go_wp2_with (first|((with_reducible refine gq_ 130 33 ?_);refine gc_ 33 Tryz.func130 (impl_GetText.calls k2 _ _ l0 x8_2 t4 t5 false _ (cb_ HR0 HB) HC0.out A8.out) ?_;rintro e w' ⟨rfl,⟨nd,rfl⟩⟩;refine ⟨_,rfl,?_⟩))
        go_ret3
        exact ⟨_,e2_,nil_,bw_ HB⟩
      ·replace H:=so3_ H;obtain ⟨rfl,rfl,rfl⟩:=H
       go_wp2
       go_ret3
       exact ⟨_,e2_,kr_ HO_10.out,bw_ HB⟩
def IsS116 (w0 W:World) (g:Nat) (f0:List Int) (f1:Int) (f2:Bool):Prop:=∃ A0 c0,W.heap[g]?=some (.cells #[.slice A0 f0.length c0,.int .i64 f1,.bool f2] 116 (0,0))∧w0.heap.size≤g∧Kd.C (Kd.int .u8) w0 A0 f0.length f0∧f0.length≤c0
theorem IsS116.grown {w0 W:World} {g:Nat} {f0:List Int} {f1:Int} {f2:Bool} {W1:World} {row:Option Nat} (h:IsS116 w0 W g f0 f1 f2) (hw:W.grownBy W1 row) (hne:some g ≠ row):IsS116 w0 W1 g f0 f1 f2:=by
 obtain ⟨A0,c0,hb,hg,hr0,hq0⟩:=h
 exact ⟨A0,c0,blk_grown hb hw hne,hg,hr0,hq0⟩
theorem IsS116.kept {w0 W:World} {g:Nat} {f0:List Int} {f1:Int} {f2:Bool} {W1:World} {S:Nat->Prop} (h:IsS116 w0 W g f0 f1 f2) (hk:Kept W W1 S) (hne:¬ S g):IsS116 w0 W1 g f0 f1 f2:=by
 obtain ⟨A0,c0,hb,hg,hr0,hq0⟩:=h
 exact ⟨A0,c0,blk_kept hb hk hne,hg,hr0,hq0⟩
theorem IsS116.below {w0 W:World} {g:Nat} {f0:List Int} {f1:Int} {f2:Bool} {W1:World} (h:IsS116 w0 W g f0 f1 f2) (hw:Below W.heap.size W W1):IsS116 w0 W1 g f0 f1 f2:=h.grown (grown_of_below hw none) (by simp)
theorem IsS116.alloc {w0 W:World} {g:Nat} {f0:List Int} {f1:Int} {f2:Bool} (h:IsS116 w0 W g f0 f1 f2) (o:Obj):IsS116 w0 (W.alloc o) g f0 f1 f2:=h.below (below_alloc (Below.refl _ _) o)
theorem IsS116.drewN {w0 W:World} {g:Nat} {f0:List Int} {f1:Int} {f2:Bool} (h:IsS116 w0 W g f0 f1 f2) (m:Nat):IsS116 w0 (W.drewN m) g f0 f1 f2:=h
theorem IsS116.drew {w0 W:World} {g:Nat} {f0:List Int} {f1:Int} {f2:Bool} (h:IsS116 w0 W g f0 f1 f2):IsS116 w0 W.drew g f0 f1 f2:=h
theorem IsS116.at_ {w0 W:World} {g:Nat} {f0:List Int} {f1:Int} {f2:Bool} {w':World} {m:Nat} (hq:W.drewN m=w') (h:IsS116 w0 W g f0 f1 f2):IsS116 w0 w' g f0 f1 f2:=by subst hq;exact IsS116.drewN h m
theorem IsS116.apart {w0 W:World} {g:Nat} {f0:List Int} {f1:Int} {f2:Bool} {α:Type} {d:Kd α} {e:Nat} {base:Nat} {ok:Nat->Prop} {v:Value} {xs:List α} (h:IsS116 w0 W g f0 f1 f2) (ho:d.R e W base ok v xs) (ht:∀ q,q ∈ e :: d.E->q ≠ 116):d.R e W base (fun k=>ok k∧k ≠ g) v xs:=by
 obtain ⟨A0,c0,hb,hg,hr0,hq0⟩:=h
 exact Kd.R_types ho hb ht
theorem IsS116.own_ne {w0 W:World} {g:Nat} {f0:List Int} {f1:Int} {f2:Bool} {α:Type} {d:Kd α} {e:Nat} {base:Nat} {ok:Nat->Prop} {v:Value} {xs:List α} (h:IsS116 w0 W g f0 f1 f2) (ho:d.R e W base ok v xs) (ht:e ≠ 116):some g ≠ v.ownBlock:=by
 obtain ⟨A0,c0,hb,hg,hr0,hq0⟩:=h
 exact Kd.R_ne ho hb ht
theorem IsS116.called {w0 W:World} {g:Nat} {f0:List Int} {f1:Int} {f2:Bool} {P:Program} {f_:FuncId} {as_:Array Value} {Q_:Ending->World->Prop} (h:IsS116 w0 W g f0 f1 f2) (k:Aside0 (IsS116 w0 W g f0 f1 f2)->Calls P f_ as_ W Q_):Calls P f_ as_ W Q_:=k ⟨h⟩
theorem IsS116.lt {w0 W:World} {g:Nat} {f0:List Int} {f1:Int} {f2:Bool} (h:IsS116 w0 W g f0 f1 f2):g < W.heap.size:=by
 obtain ⟨A0,c0,hb,hg,hr0,hq0⟩:=h
 exact blk_lt hb
theorem IsS116.ge {w0 W:World} {g:Nat} {f0:List Int} {f1:Int} {f2:Bool} (h:IsS116 w0 W g f0 f1 f2):w0.heap.size≤g:=by
 obtain ⟨A0,c0,hb,hg,hr0,hq0⟩:=h
 exact hg
theorem IsS116.far {w0 W:World} {g:Nat} {f0:List Int} {f1:Int} {f2:Bool} {p:Addr} (h:IsS116 w0 W g f0 f1 f2) (hne:g ≠ p.block) (u:Value):IsS116 w0 (W.setCell p u) g f0 f1 f2:=by
 obtain ⟨A0,c0,hb,hg,hr0,hq0⟩:=h
 exact ⟨A0,c0,blk_far hb hne u,hg,hr0,hq0⟩
theorem cellS116_0 {W:World} {g:Nat} {A0:Option Addr} {c0:Nat} {f0:List Int} {f1:Int} {f2:Bool} (h:W.heap[g]?=some (.cells #[.slice A0 f0.length c0,.int .i64 f1,.bool f2] 116 (0,0))):W.cell? ⟨g,0,none⟩=some (.slice A0 f0.length c0):=(blk_cell h 0).trans rfl
theorem cellS116_1 {W:World} {g:Nat} {A0:Option Addr} {c0:Nat} {f0:List Int} {f1:Int} {f2:Bool} (h:W.heap[g]?=some (.cells #[.slice A0 f0.length c0,.int .i64 f1,.bool f2] 116 (0,0))):W.cell? ⟨g,1,none⟩=some (.int .i64 f1):=(blk_cell h 1).trans rfl
theorem IsS116.set_1 {w0 W:World} {g:Nat} {f0:List Int} {f1:Int} {f2:Bool} (h:IsS116 w0 W g f0 f1 f2) (x:Int):IsS116 w0 (W.setCell ⟨g,1,none⟩ (.int .i64 x)) g f0 x f2:=by
 obtain ⟨A0,c0,hb,hg,hr0,hq0⟩:=h
 exact ⟨A0,c0,by simpa using blk_set hb 1 (.int .i64 x),hg,hr0,hq0⟩
theorem cellS116_2 {W:World} {g:Nat} {A0:Option Addr} {c0:Nat} {f0:List Int} {f1:Int} {f2:Bool} (h:W.heap[g]?=some (.cells #[.slice A0 f0.length c0,.int .i64 f1,.bool f2] 116 (0,0))):W.cell? ⟨g,2,none⟩=some (.bool f2):=(blk_cell h 2).trans rfl
theorem IsS116.set_2 {w0 W:World} {g:Nat} {f0:List Int} {f1:Int} {f2:Bool} (h:IsS116 w0 W g f0 f1 f2) (x:Bool):IsS116 w0 (W.setCell ⟨g,2,none⟩ (.bool x)) g f0 f1 x:=by
 obtain ⟨A0,c0,hb,hg,hr0,hq0⟩:=h
 exact ⟨A0,c0,by simpa using blk_set hb 2 (.bool x),hg,hr0,hq0⟩
theorem IsS116.new (w0 W:World) (A0:Option Addr) (c0:Nat) (f0:List Int) (f1:Int) (f2:Bool) (hB:Below w0.heap.size w0 W) (hr0:Kd.C (Kd.int .u8) w0 A0 f0.length f0) (hq0:f0.length≤c0):IsS116 w0 (W.alloc (.cells #[.slice A0 f0.length c0,.int .i64 f1,.bool f2] 116)) W.heap.size f0 f1 f2:=⟨A0,c0,by simpa using heap_alloc_new W _,hB.size,hr0,hq0⟩
theorem in116_ {w0 w1 w2:World} {g:Nat} {f0:List Int} {f1:Int} {f2:Bool} {f02:List Int} {f12:Int} {f22:Bool} (h:Aside0 (IsS116 w0 w1 g f0 f1 f2)) (f:IsS116 w0 w1 g f0 f1 f2->IsS116 w0 w2 g f02 f12 f22:=by intro h_;repeat (first|(with_reducible first|exact h_|apply IsS116.alloc|apply IsS116.drewN|apply IsS116.drew|apply IsS116.set_1|apply IsS116.set_2|refine IsS116.far ?_ (Aside0.out (by assumption)) _)|exact h_)):IsS116 w0 w2 g f02 f12 f22:=f h.out
theorem bi116_ {w w1 w2:World} (h:Aside0 (Below w.heap.size w w1)) (g:Below w.heap.size w w1->Below w.heap.size w w2:=by intro h_;repeat (first|(with_reducible first|exact h_|apply below_alloc|apply pw_below_drewN|apply below_drew1|refine below_set ?_ (Aside0.out (by assumption))|refine below_set ?_ (IsS116.ge (Aside0.out (by assumption))))|exact h_)):Below w.heap.size w w2:=g h.out
def impl_getter_num.f (k:Nat) (s0_0:List Int) (s0_1:Int) (s0_2:Bool):Option (Int × Int × Bool):=(impl_GetNum.f k s0_0 s0_1).bind fun bt1=>(if s0_2=true then (some (0,s0_1,true)) else (if bt1.2.2=true then (some (bt1.1,bt1.2.1,s0_2)) else (some (0,s0_1,true))))
theorem impl_getter_num.calls (k:Nat) (g:Nat) (s0_0:List Int) (s0_1:Int) (s0_2:Bool) (r1:Int) (r2:Int) (r3:Bool) (w0 w:World) (hI:IsS116 w0 w g s0_0 s0_1 s0_2) (hB:Below w0.heap.size w0 w) (h:impl_getter_num.f k s0_0 s0_1 s0_2=some (r1,r2,r3)) :
  Calls Tryz.prog 98 #[.pointer (some ⟨g,0,none⟩)] w fun e w'=>e = .returned (.int .i64 r1)∧IsS116 w0 w' g s0_0 r2 r3∧Below w0.heap.size w0 w'∧KeepBut w w' g none:=by
 have HI0:=am_ hI
 have HK:=am_ (KeepBut.refl w g none)
 have HL:=am_ hB.size
 clear hI
 have HW0:=am_ hB.size
 have HB:=am_ hB
 clear hB
 have H:((impl_GetNum.f k s0_0 s0_1).bind fun bt1=>(if s0_2=true then (some (0,s0_1,true)) else (if bt1.2.2=true then (some (bt1.1,bt1.2.1,s0_2)) else (some (0,s0_1,true)))))=some (r1,r2,r3):=h
 clear h
 replace H:=bi_ H;obtain ⟨⟨t1,t602,t3⟩,A2,H⟩:=H
 dsimp only at H
 replace H:=itb_ H;obtain ⟨rfl,H⟩|⟨rfl,H⟩:=H
 ·replace H:=so3_ H;obtain ⟨rfl,rfl,rfl⟩:=H
  obtain ⟨ASz4_0,cSz4_0,HGz4,hgz4,HSz4_0,HSQz4_0⟩:=HI0.out
  have hcz4_0:=cellS116_0 HGz4
  have hcz4_1:=cellS116_1 HGz4
  have hcz4_2:=cellS116_2 HGz4
  have hfz4_1:=blk_frozen HGz4 1
  have hfz4_2:=blk_frozen HGz4 2
  clear HGz4 hgz4
  go_enter Tryz.func98,Tryz.ntmps98
  go_wp2_with (first|(go_at_call 97;(with_reducible refine (impl_GetNum.calls k _ _ s0_0 s0_1 t1 t602 t3 _ ?side1 ?side2 A2.out).mono ?_);(case side1=>exact Kd.C_below HSz4_0 (bs1_ HB (IsS116.ge HI0.out)));(case side2=>exact HSQz4_0);rintro e w' ⟨rfl,⟨nd,rfl⟩⟩;(try first|exact ⟨rfl,_,World.drewN_drewN _ _ _⟩|exact ⟨rfl,_,Eq.trans (World.drewN_drewN _ _ _) (congrArg (World.drewN _) (Nat.add_assoc _ _ _))⟩)))
  repeat (go_quiet (first|(go_at_call 97;(with_reducible refine (impl_GetNum.calls k _ _ s0_0 s0_1 t1 t602 t3 _ ?side1 ?side2 A2.out).mono ?_);(case side1=>exact Kd.C_below HSz4_0 (bs1_ HB (IsS116.ge HI0.out)));(case side2=>exact HSQz4_0);rintro e w' ⟨rfl,⟨nd,rfl⟩⟩;(try first|exact ⟨rfl,_,World.drewN_drewN _ _ _⟩|exact ⟨rfl,_,Eq.trans (World.drewN_drewN _ _ _) (congrArg (World.drewN _) (Nat.add_assoc _ _ _))⟩)));try go_wp2_with (first|(go_at_call 97;(with_reducible refine (impl_GetNum.calls k _ _ s0_0 s0_1 t1 t602 t3 _ ?side1 ?side2 A2.out).mono ?_);(case side1=>exact Kd.C_below HSz4_0 (bs1_ HB (IsS116.ge HI0.out)));(case side2=>exact HSQz4_0);rintro e w' ⟨rfl,⟨nd,rfl⟩⟩;(try first|exact ⟨rfl,_,World.drewN_drewN _ _ _⟩|exact ⟨rfl,_,Eq.trans (World.drewN_drewN _ _ _) (congrArg (World.drewN _) (Nat.add_assoc _ _ _))⟩))))
  go_ret
  exact ⟨e2_,in116_ HI0,bi116_ HB,kn_ HK⟩
 ·replace H:=itb_ H;obtain ⟨rfl,H⟩|⟨rfl,H⟩:=H
  ·replace H:=so3_ H;obtain ⟨rfl,rfl,rfl⟩:=H
   obtain ⟨ASz6_0,cSz6_0,HGz6,hgz6,HSz6_0,HSQz6_0⟩:=HI0.out
   have hcz6_0:=cellS116_0 HGz6
   have hcz6_1:=cellS116_1 HGz6
   have hcz6_2:=cellS116_2 HGz6
   have hfz6_1:=blk_frozen HGz6 1
   have hfz6_2:=blk_frozen HGz6 2
   clear HGz6 hgz6
   go_enter Tryz.func98,Tryz.ntmps98
   go_wp2_with (first|(go_at_call 97;(with_reducible refine (impl_GetNum.calls k _ _ s0_0 s0_1 t1 t602 true _ ?side1 ?side2 A2.out).mono ?_);(case side1=>exact Kd.C_below HSz6_0 (bs1_ HB (IsS116.ge HI0.out)));(case side2=>exact HSQz6_0);rintro e w' ⟨rfl,⟨nd,rfl⟩⟩;(try first|exact ⟨rfl,_,World.drewN_drewN _ _ _⟩|exact ⟨rfl,_,Eq.trans (World.drewN_drewN _ _ _) (congrArg (World.drewN _) (Nat.add_assoc _ _ _))⟩)))
   repeat (go_quiet (first|(go_at_call 97;(with_reducible refine (impl_GetNum.calls k _ _ s0_0 s0_1 t1 t602 true _ ?side1 ?side2 A2.out).mono ?_);(case side1=>exact Kd.C_below HSz6_0 (bs1_ HB (IsS116.ge HI0.out)));(case side2=>exact HSQz6_0);rintro e w' ⟨rfl,⟨nd,rfl⟩⟩;(try first|exact ⟨rfl,_,World.drewN_drewN _ _ _⟩|exact ⟨rfl,_,Eq.trans (World.drewN_drewN _ _ _) (congrArg (World.drewN _) (Nat.add_assoc _ _ _))⟩)));try go_wp2_with (first|(go_at_call 97;(with_reducible refine (impl_GetNum.calls k _ _ s0_0 s0_1 t1 t602 true _ ?side1 ?side2 A2.out).mono ?_);(case side1=>exact Kd.C_below HSz6_0 (bs1_ HB (IsS116.ge HI0.out)));(case side2=>exact HSQz6_0);rintro e w' ⟨rfl,⟨nd,rfl⟩⟩;(try first|exact ⟨rfl,_,World.drewN_drewN _ _ _⟩|exact ⟨rfl,_,Eq.trans (World.drewN_drewN _ _ _) (congrArg (World.drewN _) (Nat.add_assoc _ _ _))⟩))))
   go_ret
   exact ⟨e2_,in116_ HI0,bi116_ HB,kn_ HK⟩
  ·replace H:=so3_ H;obtain ⟨rfl,rfl,rfl⟩:=H
   obtain ⟨ASz7_0,cSz7_0,HGz7,hgz7,HSz7_0,HSQz7_0⟩:=HI0.out
   have hcz7_0:=cellS116_0 HGz7
   have hcz7_1:=cellS116_1 HGz7
   have hcz7_2:=cellS116_2 HGz7
   have hfz7_1:=blk_frozen HGz7 1
   have hfz7_2:=blk_frozen HGz7 2
   clear HGz7 hgz7
   go_enter Tryz.func98,Tryz.ntmps98
   go_wp2_with (first|(go_at_call 97;(with_reducible refine (impl_GetNum.calls k _ _ s0_0 s0_1 t1 t602 false _ ?side1 ?side2 A2.out).mono ?_);(case side1=>exact Kd.C_below HSz7_0 (bs1_ HB (IsS116.ge HI0.out)));(case side2=>exact HSQz7_0);rintro e w' ⟨rfl,⟨nd,rfl⟩⟩;(try first|exact ⟨rfl,_,World.drewN_drewN _ _ _⟩|exact ⟨rfl,_,Eq.trans (World.drewN_drewN _ _ _) (congrArg (World.drewN _) (Nat.add_assoc _ _ _))⟩)))
   repeat (go_quiet (first|(go_at_call 97;(with_reducible refine (impl_GetNum.calls k _ _ s0_0 s0_1 t1 t602 false _ ?side1 ?side2 A2.out).mono ?_);(case side1=>exact Kd.C_below HSz7_0 (bs1_ HB (IsS116.ge HI0.out)));(case side2=>exact HSQz7_0);rintro e w' ⟨rfl,⟨nd,rfl⟩⟩;(try first|exact ⟨rfl,_,World.drewN_drewN _ _ _⟩|exact ⟨rfl,_,Eq.trans (World.drewN_drewN _ _ _) (congrArg (World.drewN _) (Nat.add_assoc _ _ _))⟩)));try go_wp2_with (first|(go_at_call 97;(with_reducible refine (impl_GetNum.calls k _ _ s0_0 s0_1 t1 t602 false _ ?side1 ?side2 A2.out).mono ?_);(case side1=>exact Kd.C_below HSz7_0 (bs1_ HB (IsS116.ge HI0.out)));(case side2=>exact HSQz7_0);rintro e w' ⟨rfl,⟨nd,rfl⟩⟩;(try first|exact ⟨rfl,_,World.drewN_drewN _ _ _⟩|exact ⟨rfl,_,Eq.trans (World.drewN_drewN _ _ _) (congrArg (World.drewN _) (Nat.add_assoc _ _ _))⟩))))
   go_ret
   exact ⟨e2_,in116_ HI0,bi116_ HB,kn_ HK⟩
end Go.Proofs.YtnlndmoecljicaaGreat.Q
end
