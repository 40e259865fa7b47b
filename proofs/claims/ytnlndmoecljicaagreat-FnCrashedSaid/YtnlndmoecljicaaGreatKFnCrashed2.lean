-- Joined and shortened by a program of this session (wip/tools/shakecopy.py): the words of the print,texts of pp.sh and of mine.
import Derived.Test.YtnlndmoecljicaaGreatKFnCrashed1
import Derived.Lib.SliceRun
set_option linter.unusedVariables false
set_option linter.unusedSimpArgs false
section
namespace Go.Proofs.YtnlndmoecljicaaGreat.Q
open Go.Proofs.YtnlndmoecljicaaGreatW.PrintLast Go.Proofs.YtnlndmoecljicaaGreatW.PrintMore Go.Proofs.YtnlndmoecljicaaGreatW.PrintWords Go.RowKit
attribute [local go_sem] max2_int min2_int max_two min_two max_three min_three max_four min_four
set_option maxHeartbeats 8000000
set_option maxRecDepth 100000
def spec_PutTexts.l0:Nat->List ByteArray->List Int->Int->Option (List Int)
 | 0,_,_,_=>none
 | k+1,x1,x5,x6=>if x6 < (x1.length:Int) then (if 0≤x6 then ((spec_PutText.f k x5 (rdOf ByteArray.empty x1 x6)).bind fun t5=>(spec_PutTexts.l0 k x1 t5 (wrap64 (x6+1)))) else (none)) else (some x5)
def spec_PutTexts.f (k:Nat) (l0:List Int) (l1:List ByteArray):Option (List Int):=(spec_PutNum.f k l0 (l1.length:Int)).bind fun t1=>(spec_PutTexts.l0 k l1 t1 0)
theorem spec_PutTexts.calls (k:Nat) (A0:Option Addr) (c0:Nat) (l0:List Int) (A1:Option Addr) (c1:Nat) (l1:List ByteArray) (r:List Int) (w:World) (hr0:Kd.C (Kd.int .u8) w A0 l0.length l0) (hc0:l0.length≤c0) (hr1:Kd.C Kd.string w A1 l1.length l1) (hc1:l1.length≤c1) (h:spec_PutTexts.f k l0 l1=some r) :
  Calls Tryz.prog 166 #[.slice A0 l0.length c0,.slice A1 l1.length c1] w fun e w'=>∃ v0_:Value,e = .returned (v0_)∧Kd.R (Kd.int .u8) 5 w' w.heap.size (fun _=>True) v0_ r∧Below w.heap.size w w':=by
 have HR0:=am_ hr0
 have HC0:=am_ hc0
 clear hr0 hc0
 have HR1:=am_ hr1
 have HC1:=am_ hc1
 clear hr1 hc1
 have HB:=h0_ w
 have H:((spec_PutNum.f k l0 (l1.length:Int)).bind fun t1=>(spec_PutTexts.l0 k l1 t1 0))=some r:=h
 clear h
 replace H:=bi_ H;obtain ⟨t1,A3,H⟩:=H
 have H':=am_ H
 clear H
 go_enter Tryz.func166,Tryz.ntmps166
 go_wp2_with (first|((with_reducible refine gq_ 168 10 ?_);refine gc_ 10 Tryz.func168 (spec_PutNum.calls k _ _ l0 (l1.length:Int) t1 _ (cr_ HR0.out) HC0.out A3.out) ?_;rintro e w4 ⟨v2,rfl,ho0,hb⟩;refine ⟨_,rfl,?_⟩;have HO3:=rlo_ ho0 HB;replace HB:=ss_ HB hb;clear hb ho0))
 go_loopg [5,6] k (fun kq v5 v6 w'=>∃ (x5_1:List Int) (x6_1:Int),v6 = .int .i64 x6_1∧Aside0 (spec_PutTexts.l0 kq l1 x5_1 x6_1=some r)∧Aside0 (kq≤k)∧Aside0 (Kd.R (Kd.int .u8) 5 w' w.heap.size (fun _=>True) v5 x5_1)∧Aside0 (Below w.heap.size w w'))
 case atStart => exact ⟨(t1),(0),e1_,H',⟨Nat.le_refl _⟩,⟨kr_ HO3.out⟩,⟨bw_ HB⟩⟩
 case round =>
  clear H'
  obtain ⟨x5_1,x6_1,rfl,HA,HK1,HO_5,HB⟩:=hrel
  cases gk with
  | zero=>exact absurd HA.out (by simp [spec_PutTexts.l0])
  | succ k1 =>
   have H:=HA.out
   clear HA
   simp only [spec_PutTexts.l0] at H
   replace H:=itd_ H;obtain ⟨c5b0,H⟩|⟨c5b0,H⟩:=H
   ·replace H:=ipd_ H;obtain ⟨c6b0,H⟩:=H
    replace H:=bi_ H;obtain ⟨t5,A7,H⟩:=H
    have H':=am_ H
    clear H
    have p604:0≤(x6_1:Int):=od_
    have q4:x6_1 < (l1.length:Int):=od_
    obtain ⟨ad4,e4,hx4_0⟩:=Kd.at_string HR1.out x6_1 p604 q4
    cases e4
    replace hx4_0:=cw_ HB hx4_0
    replace p604:=eq_true p604
    replace q4:=eq_true q4
    obtain ⟨Ao8,co8,eo8⟩:=Kd.R_slice HO_5.out
    subst eo8
    go_wp2_with (first|((with_reducible refine gq_ 167 22 ?_);refine gc_ 22 Tryz.func167 (spec_PutText.calls k1 _ _ x5_1 (rdOf ByteArray.empty l1 x6_1) t5 _ (ch_ HO_5) (cl_ HO_5) A7.out) ?_;rintro e w9 ⟨v606,rfl,ho0,hb⟩;refine ⟨_,rfl,?_⟩;have HO7:=am_ (Kd.R_lower (Kd.R_new' ho0 (lt_ HO_5)) (sz_ HB));replace HO_5:=re_ HO_5 ho0 hb;replace HB:=ss_ HB hb;clear hb ho0))
    go_roundg k1
    case measure => have:=HK1.out;omega
    case rel => exact ⟨(t5),(wrap64 (x6_1+1)),e1_,H',⟨by have:=HK1.out;omega⟩,⟨km_ HO7⟩,⟨bw_ HB⟩⟩
   ·obtain rfl:=Option.some.inj H
    go_wp2
    go_ret
    exact ⟨_,e2_,kr_ HO_5.out,bw_ HB⟩
def impl_putTexts.l0:Nat->List Int->List ByteArray->Int->Int->Option (List Int)
 | 0,_,_,_,_=>none
 | k+1,x0,x11,x12,x13=>if x13 < x12 then (if 0≤x13 then (if x13 < (x11.length:Int) then ((impl_putText.f k x0 (rdOf ByteArray.empty x11 x13)).bind fun t5=>(impl_putTexts.l0 k t5 x11 x12 (wrap64 (x13+1)))) else (none)) else (none)) else (some x0)
def impl_putTexts.f (k:Nat) (l0:List Int) (l1:List ByteArray):Option (List Int):=(impl_putNum.f k l0 (l1.length:Int)).bind fun t1=>(impl_putTexts.l0 k t1 l1 (l1.length:Int) 0)
theorem impl_putTexts.calls (k:Nat) (P0_:Nat->Prop) (u9000_:Value) (l0:List Int) (A1:Option Addr) (c1:Nat) (l1:List ByteArray) (r:List Int) (w0 w:World) (hB:Below w0.heap.size w0 w) (ho0:Kd.R (Kd.int .u8) 5 w w0.heap.size P0_ u9000_ l0) (hr1:∀ W_,Kept w W_ (fun k_=>P0_ k_)->Kd.C Kd.string W_ A1 l1.length l1) (hc1:l1.length≤c1) (h:impl_putTexts.f k l0 l1=some r) :
  Calls Tryz.prog 153 #[u9000_,.slice A1 l1.length c1] w fun e w'=>∃ v0_:Value,e = .returned (v0_)∧Kd.R (Kd.int .u8) 5 w' w0.heap.size (fun k_=>(P0_ k_∨w.heap.size≤k_)) v0_ r∧Below w0.heap.size w0 w'∧Kept w w' (fun k_=>P0_ k_):=by
 have HO0:=am_ (show Kd.R (Kd.int .u8) 5 w w0.heap.size (fun k_=>(P0_ k_∨w.heap.size≤k_)) u9000_ l0 from Kd.R_mono ho0 (fun k_ hk=>(.inl hk)))
 have HR1:=am_ hr1
 have HC1:=am_ hc1
 clear hr1 hc1
 have HK:=am_ (Kept.refl w (fun k_=>P0_ k_))
 have HW0:=am_ hB.size
 have HB:=am_ hB
 clear hB
 have H:((impl_putNum.f k l0 (l1.length:Int)).bind fun t1=>(impl_putTexts.l0 k t1 l1 (l1.length:Int) 0))=some r:=h
 clear h
 replace H:=bi_ H;obtain ⟨t1,A3,H⟩:=H
 have H':=am_ H
 clear H
 obtain ⟨Ao4,co4,eo4⟩:=Kd.R_slice HO0.out
 subst eo4
 go_enter Tryz.func153,Tryz.ntmps153
 go_wp2_with (first|((with_reducible refine gq_ 155 10 ?_);refine gc_ 10 Tryz.func155 (impl_putNum.calls k (fun k_=>some k_=(.slice Ao4 l0.length co4:Value).ownBlock) (.slice Ao4 l0.length co4) l0 (l1.length:Int) t1 w0 _ (bw_ HB) (Kd.R_tight rfl HO0.out) A3.out) ?_;rintro e w5 ⟨v2,rfl,ho0,hb,hkp⟩;refine ⟨_,rfl,?_⟩;have HO3:=am_ (Kd.R_mono (ok':=fun k_=>(P0_ k_∨w.heap.size≤k_)) ho0 (fun k_ hk_=>Or.elim hk_ (fun hs_=>(HO0.out.1 k_ (hs_).symm)) (fun hn_=>(.inr (Nat.le_trans (by first|exact HK.out.1|exact (show Kept w _ (fun k_=>P0_ k_) from kt_ HK).1) hn_)))));replace HK:=am_ (Kept.then_ (S:=(fun k_=>P0_ k_)) (kt_ HK) hkp (fun k_ hs_=>(fun e_=>(HO0.out.1 k_ e_.symm)) hs_));replace HB:=am_ hb;clear HO0;clear hb hkp ho0))
 go_loopg [0,13] k (fun kq v0 v13 w'=>∃ (x0_1:List Int) (x13_1:Int),v13 = .int .i64 x13_1∧Aside0 (impl_putTexts.l0 kq x0_1 l1 (l1.length:Int) x13_1=some r)∧Aside0 (kq≤k)∧Aside0 (Kd.R (Kd.int .u8) 5 w' w0.heap.size (fun k_=>(P0_ k_∨w.heap.size≤k_)) v0 x0_1)∧Aside0 (Kept w w' (fun k_=>P0_ k_))∧Aside0 (Below w0.heap.size w0 w'))
 case atStart => exact ⟨(t1),(0),e1_,H',⟨Nat.le_refl _⟩,⟨kr_ HO3.out⟩,⟨kt_ HK⟩,⟨bw_ HB⟩⟩
 case round =>
  clear H'
  obtain ⟨x0_1,x13_1,rfl,HA,HK1,HO_0,HK,HB⟩:=hrel
  cases gk with
  | zero=>exact absurd HA.out (by simp [impl_putTexts.l0])
  | succ k1 =>
   have H:=HA.out
   clear HA
   simp only [impl_putTexts.l0] at H
   replace H:=itd_ H;obtain ⟨c6b0,H⟩|⟨c6b0,H⟩:=H
   ·replace H:=ipd_ H;obtain ⟨c7b0,H⟩:=H
    replace H:=ipd_ H;obtain ⟨c8b0,H⟩:=H
    replace H:=bi_ H;obtain ⟨t5,A9,H⟩:=H
    have H':=am_ H
    clear H
    have p604:0≤(x13_1:Int):=od_
    have q4:x13_1 < (l1.length:Int):=od_
    obtain ⟨ad4,e4,hx4_0⟩:=Kd.at_string (Kd.C_kept_now HR1.out HK.out) x13_1 p604 q4
    cases e4
    replace p604:=eq_true p604
    replace q4:=eq_true q4
    obtain ⟨Ao10,co10,eo10⟩:=Kd.R_slice HO_0.out
    subst eo10
    go_wp2_with (first|((with_reducible refine gq_ 154 19 ?_);refine gc_ 19 Tryz.func154 (impl_putText.calls k1 (fun k_=>some k_=(.slice Ao10 x0_1.length co10:Value).ownBlock) (.slice Ao10 x0_1.length co10) x0_1 (rdOf ByteArray.empty l1 x13_1) t5 w0 _ (bw_ HB) (Kd.R_tight rfl HO_0.out) A9.out) ?_;rintro e w11 ⟨v6,rfl,ho0,hb,hkp⟩;refine ⟨_,rfl,?_⟩;have HO7:=am_ (Kd.R_mono (ok':=fun k_=>(P0_ k_∨w.heap.size≤k_)) ho0 (fun k_ hk_=>Or.elim hk_ (fun hs_=>(HO_0.out.1 k_ (hs_).symm)) (fun hn_=>(.inr (Nat.le_trans (by first|exact HK.out.1|exact (show Kept w _ (fun k_=>P0_ k_) from kt_ HK).1) hn_)))));replace HK:=am_ (Kept.then_ (S:=(fun k_=>P0_ k_)) (kt_ HK) hkp (fun k_ hs_=>(fun e_=>(HO_0.out.1 k_ e_.symm)) hs_));replace HB:=am_ hb;clear HO_0;clear hb hkp ho0))
    go_roundg k1
    case measure => have:=HK1.out;omega
    case rel => exact ⟨(t5),(wrap64 (x13_1+1)),e1_,H',⟨by have:=HK1.out;omega⟩,⟨kr_ HO7.out⟩,⟨kt_ HK⟩,⟨bw_ HB⟩⟩
   ·obtain rfl:=Option.some.inj H
    go_wp2
    go_ret
    exact ⟨_,e2_,kr_ HO_0.out,bw_ HB,kt_ HK⟩
def spec_l1In.f (a0:Int) (a1:Int) (a2:Int):Option (Bool):=if a0 ≥ a1 then (some (decide (a0≤a2))) else (some false)
theorem spec_l1In.calls (a0:Int) (a1:Int) (a2:Int) (r:Bool) (w:World) (h:spec_l1In.f a0 a1 a2=some r) :
  Calls Tryz.prog 72 #[.int .i64 a0,.int .i64 a1,.int .i64 a2] w fun e w'=>e = .returned (.bool r)∧Drawn0 w w':=by
 have H:(if a0 ≥ a1 then (some (decide (a0≤a2))) else (some false))=some r:=h
 clear h
 replace H:=it_ H;obtain ⟨c4,H⟩|⟨c4,H⟩:=H
 ·have c4b0:decide (a1≤a0)=true:=decide_eq_true c4
  clear c4
  obtain rfl:=Option.some.inj H
  go_enter Tryz.func72,Tryz.ntmps72
  go_wp2
  go_ret
  exact ⟨e1_,dw_⟩
 ·have c4b0:decide (a1≤a0)=false:=decide_eq_false c4
  clear c4
  obtain rfl:=Option.some.inj H
  go_enter Tryz.func72,Tryz.ntmps72
  go_wp2
  go_ret
  exact ⟨e1_,dw_⟩
def impl_inRange.f (a0:Int) (a1:Int) (a2:Int):Option (Bool):=if a0 ≥ a1 then (some (decide (a0≤a2))) else (some false)
theorem impl_inRange.calls (a0:Int) (a1:Int) (a2:Int) (r:Bool) (w:World) (h:impl_inRange.f a0 a1 a2=some r) :
  Calls Tryz.prog 63 #[.int .i64 a0,.int .i64 a1,.int .i64 a2] w fun e w'=>e = .returned (.bool r)∧Drawn0 w w':=by
 have H:(if a0 ≥ a1 then (some (decide (a0≤a2))) else (some false))=some r:=h
 clear h
 replace H:=it_ H;obtain ⟨c4,H⟩|⟨c4,H⟩:=H
 ·have c4b0:decide (a1≤a0)=true:=decide_eq_true c4
  clear c4
  obtain rfl:=Option.some.inj H
  go_enter Tryz.func63,Tryz.ntmps63
  go_wp2
  go_ret
  exact ⟨e1_,dw_⟩
 ·have c4b0:decide (a1≤a0)=false:=decide_eq_false c4
  clear c4
  obtain rfl:=Option.some.inj H
  go_enter Tryz.func63,Tryz.ntmps63
  go_wp2
  go_ret
  exact ⟨e1_,dw_⟩
mutual
def impl_GetNum.l0:Nat->List Int->Int->Int->Int->Option (Int × Int × Bool)
 | 0,_,_,_,_=>none
 | k+1,x0,x1,x7,x8=>if x8 < 5 then (impl_GetNum.j1 k x0 x1 x7 x8 (decide (x1 < (x0.length:Int)))) else (impl_GetNum.j1 k x0 x1 x7 x8 false)
def impl_GetNum.j1:Nat->List Int->Int->Int->Int->Bool->Option (Int × Int × Bool)
 | 0,_,_,_,_,_=>none
 | k+1,x0,x1,x7,x8,x23=>if x23=true then (if 0≤x1 then (if x1 < (x0.length:Int) then (if 0≤(IntKind.u64.wrap (wrap64 (7 * x8))) then (if (wrap64 (rd x0 x1)) < 128 then (if (wrap64 (rd x0 x1))=0 then (if x8 > 0 then (some (0,0,false)) else (if (Go.bits .or .i64 x7 (shl .i64 (Go.bits .and .i64 (wrap64 (rd x0 x1)) 127) (IntKind.u64.wrap (wrap64 (7 * x8))))) > 1000000000 then (some (0,0,false)) else (some (Go.bits .or .i64 x7 (shl .i64 (Go.bits .and .i64 (wrap64 (rd x0 x1)) 127) (IntKind.u64.wrap (wrap64 (7 * x8)))),wrap64 (x1+1),true)))) else (if (Go.bits .or .i64 x7 (shl .i64 (Go.bits .and .i64 (wrap64 (rd x0 x1)) 127) (IntKind.u64.wrap (wrap64 (7 * x8))))) > 1000000000 then (some (0,0,false)) else (some (Go.bits .or .i64 x7 (shl .i64 (Go.bits .and .i64 (wrap64 (rd x0 x1)) 127) (IntKind.u64.wrap (wrap64 (7 * x8)))),wrap64 (x1+1),true)))) else (impl_GetNum.l0 k x0 (wrap64 (x1+1)) (Go.bits .or .i64 x7 (shl .i64 (Go.bits .and .i64 (wrap64 (rd x0 x1)) 127) (IntKind.u64.wrap (wrap64 (7 * x8))))) (wrap64 (x8+1)))) else (none)) else (none)) else (none)) else (some (0,0,false))
end
def impl_GetNum.f (k:Nat) (l0:List Int) (a1:Int):Option (Int × Int × Bool):=(impl_inRange.f a1 0 (wrap64 ((l0.length:Int) - 1))).bind fun t1=>(if t1=true then (impl_GetNum.l0 k l0 a1 0 0) else (some (0,0,false)))
theorem impl_GetNum.calls (k:Nat) (A0:Option Addr) (c0:Nat) (l0:List Int) (a1:Int) (r1:Int) (r2:Int) (r3:Bool) (w:World) (hr0:Kd.C (Kd.int .u8) w A0 l0.length l0) (hc0:l0.length≤c0) (h:impl_GetNum.f k l0 a1=some (r1,r2,r3)) :
  Calls Tryz.prog 97 #[.slice A0 l0.length c0,.int .i64 a1] w fun e w'=>e = .returned (.tuple #[.int .i64 r1,.int .i64 r2,.bool r3])∧Drawn0 w w':=by
 have HR0:=am_ hr0
 have HC0:=am_ hc0
 clear hr0 hc0
 have H:((impl_inRange.f a1 0 (wrap64 ((l0.length:Int) - 1))).bind fun t1=>(if t1=true then (impl_GetNum.l0 k l0 a1 0 0) else (some (0,0,false))))=some (r1,r2,r3):=h
 clear h
 replace H:=bi_ H;obtain ⟨t1,A3,H⟩:=H
 replace H:=itb_ H;obtain ⟨rfl,H⟩|⟨rfl,H⟩:=H
 ·have H' := am_ H
  clear H
  go_enter Tryz.func97,Tryz.ntmps97
  go_wp2_with (first|((with_reducible refine gq_ 63 14 ?_);refine gc_ 14 Tryz.func63 (impl_inRange.calls a1 0 (wrap64 ((l0.length:Int) - 1)) true _ A3.out) ?_;rintro e w' ⟨rfl,⟨nd,rfl⟩⟩;refine ⟨_,rfl,?_⟩))
  go_loopg [1,7,8] k (fun kq v1 v7 v8 w'=>∃ (x1_1:Int) (x7_1:Int) (x8_1:Int),v1 = .int .i64 x1_1∧v7 = .int .i64 x7_1∧v8 = .int .i64 x8_1∧Aside0 (impl_GetNum.l0 kq l0 x1_1 x7_1 x8_1=some (r1,r2,r3))∧Aside0 (kq≤k)∧Drawn0 w w')
  case atStart => exact ⟨(a1),(0),(0),e1_,e1_,e1_,H',⟨Nat.le_refl _⟩,dw_⟩
  case round =>
   clear H'
   obtain ⟨x1_1,x7_1,x8_1,rfl,rfl,rfl,HA,HK1,⟨m1,rfl⟩⟩:=hrel
   cases gk with
   | zero=>exact absurd HA.out (by simp [impl_GetNum.l0])
   | succ k1 =>
    have H:=HA.out
    clear HA
    simp only [impl_GetNum.l0] at H
    have HC5:=am_ H
    clear H
    go_upto_region 5 with (fail)
    go_cut [23] (fun v23 wc=>∃ (kq:Nat) (x23_4:Bool),v23 = .bool x23_4∧Aside0 (impl_GetNum.j1 kq l0 x1_1 x7_1 x8_1 x23_4=some (r1,r2,r3))∧Aside0 (kq≤k1)∧Drawn0 w wc)
    case first =>
     have H:=HC5.out
     clear HC5
     replace H:=itd_ H;obtain ⟨c6b0,H⟩|⟨c6b0,H⟩:=H
     ·(first | rw [c6b0]|(simp only [i64_w,i32_w];rw [c6b0])|skip)
      have H':=am_ H
      clear H
      go_wp2
      go_meet
      case rel => exact ⟨_,(decide (x1_1 < (l0.length:Int))),e1_,H',⟨by have:=HK1.out;first|omega|exact Nat.le_refl _⟩,dw_⟩
     ·(first | rw [c6b0]|(simp only [i64_w,i32_w];rw [c6b0])|skip)
      have H':=am_ H
      clear H
      go_wp2
      go_meet
      case rel => exact ⟨_,(false),e1_,H',⟨by have:=HK1.out;first|omega|exact Nat.le_refl _⟩,dw_⟩
    case rest =>
     clear HC5
     try clear p2
     try clear c4
     obtain ⟨kq,x23_4,rfl,HA,HJ4,⟨mc4,rfl⟩⟩:=hcut
     cases kq with
     | zero=>exact absurd HA.out (by simp [impl_GetNum.j1])
     | succ kj4 =>
      have H:=HA.out
      clear HA
      simp only [impl_GetNum.j1] at H
      replace H:=itb_ H;obtain ⟨rfl,H⟩|⟨rfl,H⟩:=H
      ·replace H:=ipd_ H;obtain ⟨c8b0,H⟩:=H
       replace H:=ipd_ H;obtain ⟨c9b0,H⟩:=H
       generalize hji10:(IntKind.u64.wrap (wrap64 (7 * x8_1)))=ji10 at H
       replace H:=ip_ H;obtain ⟨c11,H⟩:=H
       have c11b0:=eq_true c11
       have c11b1:=decide_eq_true c11
       clear c11
       generalize hji12:(shl .i64 (Go.bits .and .i64 (wrap64 (rd l0 x1_1)) 127) (ji10))=ji12 at H
       have hji12_:(IntKind.i64.wrap ((Go.bits .and .i64 (wrap64 (rd l0 x1_1)) 127) * 2 ^ min (ji10).toNat 64))=ji12:=hji12
       have hji12z:(ji10)≤64->(IntKind.i64.wrap ((Go.bits .and .i64 (wrap64 (rd l0 x1_1)) 127) * 2 ^ (ji10).toNat))=ji12:=shl_small hji12
       have hji12y:(wrap64 ((Go.bits .and .i64 (wrap64 (rd l0 x1_1)) 127) * 2 ^ min (ji10).toNat 64))=ji12:=(i64_w _).symm.trans hji12_
       have hji12x:(ji10)≤64->(wrap64 ((Go.bits .and .i64 (wrap64 (rd l0 x1_1)) 127) * 2 ^ (ji10).toNat))=ji12:=fun h_=>(i64_w _).symm.trans (hji12z h_)
       replace H:=itd_ H;obtain ⟨c13b0,H⟩|⟨c13b0,H⟩:=H
       ·replace H:=it_ H;obtain ⟨c14,H⟩|⟨c14,H⟩:=H
        ·have c14b0:((wrap64 (rd l0 x1_1)) == 0)=true:=beq_iff_eq.mpr c14
         have c14b1:((wrap64 (rd l0 x1_1)) != 0)=false:=bne_eq_false_iff_eq.mpr c14
         clear c14
         replace H:=it_ H;obtain ⟨c15,H⟩|⟨c15,H⟩:=H
         ·have c15b0:decide (0 < x8_1)=true:=decide_eq_true c15
          clear c15
          replace H:=so3_ H;obtain ⟨rfl,rfl,rfl⟩:=H
          obtain ⟨ad2,e602,hx2_0,p602,q602⟩:=ai_ HR0.out x1_1
          cases e602
          go_wp2
          go_ret3
          exact ⟨by first|rfl|(simp;done)|(simp only [← hji10,← hji12] <;> (first|rfl|simp))|(simp [*];done),dw_⟩
         ·have c15b0:decide (0 < x8_1)=false:=decide_eq_false c15
          clear c15
          replace H:=it_ H;obtain ⟨c16,H⟩|⟨c16,H⟩:=H
          ·have c16b0:decide (1000000000 < (Go.bits .or .i64 x7_1 (ji12)))=true:=decide_eq_true c16
           clear c16
           replace H:=so3_ H;obtain ⟨rfl,rfl,rfl⟩:=H
           obtain ⟨ad2,e602,hx2_0,p602,q602⟩:=ai_ HR0.out x1_1
           cases e602
           go_wp2
           go_ret3
           exact ⟨by first|rfl|(simp;done)|(simp only [← hji10,← hji12] <;> (first|rfl|simp))|(simp [*];done),dw_⟩
          ·have c16b0:decide (1000000000 < (Go.bits .or .i64 x7_1 (ji12)))=false:=decide_eq_false c16
           clear c16
           replace H:=so3_ H;obtain ⟨rfl,rfl,rfl⟩:=H
           obtain ⟨ad2,e602,hx2_0,p602,q602⟩:=ai_ HR0.out x1_1
           cases e602
           go_wp2
           go_ret3
           exact ⟨by first|rfl|(simp;done)|(simp only [← hji10,← hji12] <;> (first|rfl|simp))|(simp [*];done),dw_⟩
        ·have c14b0:((wrap64 (rd l0 x1_1)) == 0)=false:=beq_eq_false_iff_ne.mpr c14
         have c14b1:((wrap64 (rd l0 x1_1)) != 0)=true:=bne_iff_ne.mpr c14
         replace H:=it_ H;obtain ⟨c17,H⟩|⟨c17,H⟩:=H
         ·have c17b0:decide (1000000000 < (Go.bits .or .i64 x7_1 (ji12)))=true:=decide_eq_true c17
          clear c17
          replace H:=so3_ H;obtain ⟨rfl,rfl,rfl⟩:=H
          obtain ⟨ad2,e602,hx2_0,p602,q602⟩:=ai_ HR0.out x1_1
          cases e602
          go_wp2
          go_ret3
          exact ⟨by first|rfl|(simp;done)|(simp only [← hji10,← hji12] <;> (first|rfl|simp))|(simp [*];done),dw_⟩
         ·have c17b0:decide (1000000000 < (Go.bits .or .i64 x7_1 (ji12)))=false:=decide_eq_false c17
          clear c17
          replace H:=so3_ H;obtain ⟨rfl,rfl,rfl⟩:=H
          obtain ⟨ad2,e602,hx2_0,p602,q602⟩:=ai_ HR0.out x1_1
          cases e602
          go_wp2
          go_ret3
          exact ⟨by first|rfl|(simp;done)|(simp only [← hji10,← hji12] <;> (first|rfl|simp))|(simp [*];done),dw_⟩
       ·have H':=am_ H
        clear H
        obtain ⟨ad2,e602,hx2_0,p602,q602⟩:=ai_ HR0.out x1_1
        cases e602
        go_wp2
        go_roundg kj4
        case measure => have:=HK1.out;have:=HJ4.out;omega
        case rel => exact ⟨(wrap64 (x1_1+1)),(Go.bits .or .i64 x7_1 (ji12)),(wrap64 (x8_1+1)),e1_,(by first|rfl|(simp;done)|(simp only [← hji12] <;> (first|rfl|simp))|(simp [*];done)),e1_,H',⟨by have:=HK1.out;have:=HJ4.out;omega⟩,dw_⟩
      ·replace H:=so3_ H;obtain ⟨rfl,rfl,rfl⟩:=H
       go_wp2
       go_ret3
       exact ⟨e1_,dw_⟩
 ·replace H:=so3_ H;obtain ⟨rfl,rfl,rfl⟩:=H
  go_enter Tryz.func97,Tryz.ntmps97
  go_wp2_with (first|((with_reducible refine gq_ 63 14 ?_);refine gc_ 14 Tryz.func63 (impl_inRange.calls a1 0 (wrap64 ((l0.length:Int) - 1)) false _ A3.out) ?_;rintro e w' ⟨rfl,⟨nd,rfl⟩⟩;refine ⟨_,rfl,?_⟩))
  go_ret3
  exact ⟨e1_,dw_⟩
mutual
def spec_GetNum.l0:Nat->List Int->Int->Int->Int->Option (Int × Int × Bool)
 | 0,_,_,_,_=>none
 | k+1,x0,x1,x7,x8=>if x8 < 5 then (if x1 ≥ 0 then (if x1 < (x0.length:Int) then (spec_GetNum.j1 k x0 x1 x7 x8 (decide ((wrap64 (x1+x8)) < (x0.length:Int)))) else (spec_GetNum.j1 k x0 x1 x7 x8 false)) else (spec_GetNum.j1 k x0 x1 x7 x8 false)) else (spec_GetNum.j1 k x0 x1 x7 x8 false)
def spec_GetNum.j1:Nat->List Int->Int->Int->Int->Bool->Option (Int × Int × Bool)
 | 0,_,_,_,_,_=>none
 | k+1,x0,x1,x7,x8,x29=>if x29=true then (if 0≤(wrap64 (x1+x8)) then (if (wrap64 (x1+x8)) < (x0.length:Int) then (if 0≤(IntKind.u64.wrap (wrap64 (7 * x8))) then (if (wrap64 (rd x0 (wrap64 (x1+x8)))) > 127 then (spec_GetNum.l0 k x0 x1 (Go.bits .or .i64 x7 (shl .i64 (Go.bits .and .i64 (wrap64 (rd x0 (wrap64 (x1+x8)))) 127) (IntKind.u64.wrap (wrap64 (7 * x8))))) (wrap64 (x8+1))) else (if x8 > 0 then (if (wrap64 (rd x0 (wrap64 (x1+x8))))=0 then (some (0,0,false)) else (if (Go.bits .or .i64 x7 (shl .i64 (Go.bits .and .i64 (wrap64 (rd x0 (wrap64 (x1+x8)))) 127) (IntKind.u64.wrap (wrap64 (7 * x8))))) > 1000000000 then (some (0,0,false)) else (some (Go.bits .or .i64 x7 (shl .i64 (Go.bits .and .i64 (wrap64 (rd x0 (wrap64 (x1+x8)))) 127) (IntKind.u64.wrap (wrap64 (7 * x8)))),wrap64 ((wrap64 (x1+x8)) + 1),true)))) else (if (Go.bits .or .i64 x7 (shl .i64 (Go.bits .and .i64 (wrap64 (rd x0 (wrap64 (x1+x8)))) 127) (IntKind.u64.wrap (wrap64 (7 * x8))))) > 1000000000 then (some (0,0,false)) else (some (Go.bits .or .i64 x7 (shl .i64 (Go.bits .and .i64 (wrap64 (rd x0 (wrap64 (x1+x8)))) 127) (IntKind.u64.wrap (wrap64 (7 * x8)))),wrap64 ((wrap64 (x1+x8)) + 1),true))))) else (none)) else (none)) else (none)) else (some (0,0,false))
end
def spec_GetNum.f (k:Nat) (l0:List Int) (a1:Int):Option (Int × Int × Bool):=spec_GetNum.l0 k l0 a1 0 0
theorem spec_GetNum.calls (k:Nat) (A0:Option Addr) (c0:Nat) (l0:List Int) (a1:Int) (r1:Int) (r2:Int) (r3:Bool) (w:World) (hr0:Kd.C (Kd.int .u8) w A0 l0.length l0) (hc0:l0.length≤c0) (h:spec_GetNum.f k l0 a1=some (r1,r2,r3)) :
  Calls Tryz.prog 147 #[.slice A0 l0.length c0,.int .i64 a1] w fun e w'=>e = .returned (.tuple #[.int .i64 r1,.int .i64 r2,.bool r3])∧Drawn0 w w':=by
 have HR0:=am_ hr0
 have HC0:=am_ hc0
 clear hr0 hc0
 have H:(spec_GetNum.l0 k l0 a1 0 0)=some (r1,r2,r3):=h
 clear h
 have H':=am_ H
 clear H
 go_enter Tryz.func147,Tryz.ntmps147
 go_wp2
 go_loopg [7,8] k (fun kq v7 v8 w'=>∃ (x7_1:Int) (x8_1:Int),v7 = .int .i64 x7_1∧v8 = .int .i64 x8_1∧Aside0 (spec_GetNum.l0 kq l0 a1 x7_1 x8_1=some (r1,r2,r3))∧Aside0 (kq≤k)∧Drawn0 w w')
 case atStart => exact ⟨(0),(0),e1_,e1_,H',⟨Nat.le_refl _⟩,dw_⟩
 case round =>
  clear H'
  obtain ⟨x7_1,x8_1,rfl,rfl,HA,HK1,⟨m1,rfl⟩⟩:=hrel
  cases gk with
  | zero=>exact absurd HA.out (by simp [spec_GetNum.l0])
  | succ k1 =>
   have H:=HA.out
   clear HA
   simp only [spec_GetNum.l0] at H
   have HC3:=am_ H
   clear H
   go_upto_region 3 with (fail)
   go_cut [29] (fun v29 wc=>∃ (kq:Nat) (x29_2:Bool),v29 = .bool x29_2∧Aside0 (spec_GetNum.j1 kq l0 a1 x7_1 x8_1 x29_2=some (r1,r2,r3))∧Aside0 (kq≤k1)∧Drawn0 w wc)
   case first =>
    have H:=HC3.out
    clear HC3
    replace H:=itd_ H;obtain ⟨c4b0,H⟩|⟨c4b0,H⟩:=H
    ·(first | rw [c4b0]|(simp only [i64_w,i32_w];rw [c4b0])|skip)
     replace H:=it_ H;obtain ⟨c5,H⟩|⟨c5,H⟩:=H
     ·have c5b0:decide (0≤a1)=true:=decide_eq_true c5
      clear c5
      replace H:=itd_ H;obtain ⟨c6b0,H⟩|⟨c6b0,H⟩:=H
      ·have H':=am_ H
       clear H
       go_wp2
       go_meet
       case rel => exact ⟨_,(decide ((wrap64 (a1+x8_1)) < (l0.length:Int))),e1_,H',⟨by have:=HK1.out;first|omega|exact Nat.le_refl _⟩,dw_⟩
      ·have H':=am_ H
       clear H
       go_wp2
       go_meet
       case rel => exact ⟨_,(false),e1_,H',⟨by have:=HK1.out;first|omega|exact Nat.le_refl _⟩,dw_⟩
     ·have c5b0:decide (0≤a1)=false:=decide_eq_false c5
      clear c5
      have H':=am_ H
      clear H
      go_wp2
      go_meet
      case rel => exact ⟨_,(false),e1_,H',⟨by have:=HK1.out;first|omega|exact Nat.le_refl _⟩,dw_⟩
    ·(first | rw [c4b0]|(simp only [i64_w,i32_w];rw [c4b0])|skip)
     have H':=am_ H
     clear H
     go_wp2
     go_meet
     case rel => exact ⟨_,(false),e1_,H',⟨by have:=HK1.out;first|omega|exact Nat.le_refl _⟩,dw_⟩
   case rest =>
    clear HC3
    try clear c1
    try clear p2
    obtain ⟨kq,x29_2,rfl,HA,HJ2,⟨mc2,rfl⟩⟩:=hcut
    cases kq with
    | zero=>exact absurd HA.out (by simp [spec_GetNum.j1])
    | succ kj2 =>
     have H:=HA.out
     clear HA
     simp only [spec_GetNum.j1] at H
     replace H:=itb_ H;obtain ⟨rfl,H⟩|⟨rfl,H⟩:=H
     ·generalize hji8:(wrap64 (a1+x8_1))=ji8 at H
      have hji8w:(IntKind.i64.wrap (a1+x8_1))=ji8:=(i64_w _).trans hji8
      replace H:=ipd_ H;obtain ⟨c9b0,H⟩:=H
      replace H:=ipd_ H;obtain ⟨c10b0,H⟩:=H
      generalize hji11:(IntKind.u64.wrap (wrap64 (7 * x8_1)))=ji11 at H
      replace H:=ip_ H;obtain ⟨c12,H⟩:=H
      have c12b0:=eq_true c12
      have c12b1:=decide_eq_true c12
      clear c12
      generalize hji13:(shl .i64 (Go.bits .and .i64 (wrap64 (rd l0 (ji8))) 127) (ji11))=ji13 at H
      have hji13_:(IntKind.i64.wrap ((Go.bits .and .i64 (wrap64 (rd l0 (ji8))) 127) * 2 ^ min (ji11).toNat 64))=ji13:=hji13
      have hji13z:(ji11)≤64->(IntKind.i64.wrap ((Go.bits .and .i64 (wrap64 (rd l0 (ji8))) 127) * 2 ^ (ji11).toNat))=ji13:=shl_small hji13
      have hji13y:(wrap64 ((Go.bits .and .i64 (wrap64 (rd l0 (ji8))) 127) * 2 ^ min (ji11).toNat 64))=ji13:=(i64_w _).symm.trans hji13_
      have hji13x:(ji11)≤64->(wrap64 ((Go.bits .and .i64 (wrap64 (rd l0 (ji8))) 127) * 2 ^ (ji11).toNat))=ji13:=fun h_=>(i64_w _).symm.trans (hji13z h_)
      replace H:=it_ H;obtain ⟨c14,H⟩|⟨c14,H⟩:=H
      ·have c14b0:decide (127 < (wrap64 (rd l0 (ji8))))=true:=decide_eq_true c14
       clear c14
       have H':=am_ H
       clear H
       obtain ⟨ad1,e601,hx1_0,p601,q1⟩:=ai_ HR0.out (ji8)
       cases e601
       go_wp2
       go_roundg kj2
       case measure => have:=HK1.out;have:=HJ2.out;omega
       case rel => exact ⟨(Go.bits .or .i64 x7_1 (ji13)),(wrap64 (x8_1+1)),(by first|rfl|(simp;done)|(simp only [← hji13] <;> (first|rfl|simp))|(simp [*];done)),e1_,H',⟨by have:=HK1.out;have:=HJ2.out;omega⟩,dw_⟩
      ·have c14b0:decide (127 < (wrap64 (rd l0 (ji8))))=false:=decide_eq_false c14
       clear c14
       replace H:=it_ H;obtain ⟨c15,H⟩|⟨c15,H⟩:=H
       ·have c15b0:decide (0 < x8_1)=true:=decide_eq_true c15
        clear c15
        replace H:=it_ H;obtain ⟨c16,H⟩|⟨c16,H⟩:=H
        ·have c16b0:((wrap64 (rd l0 (ji8))) == 0)=true:=beq_iff_eq.mpr c16
         have c16b1:((wrap64 (rd l0 (ji8))) != 0)=false:=bne_eq_false_iff_eq.mpr c16
         clear c16
         replace H:=so3_ H;obtain ⟨rfl,rfl,rfl⟩:=H
         obtain ⟨ad1,e601,hx1_0,p601,q1⟩:=ai_ HR0.out (ji8)
         cases e601
         go_wp2
         go_ret3
         exact ⟨by first|rfl|(simp;done)|(simp only [← hji8,← hji11,← hji13] <;> (first|rfl|simp))|(simp [*];done),dw_⟩
        ·have c16b0:((wrap64 (rd l0 (ji8))) == 0)=false:=beq_eq_false_iff_ne.mpr c16
         have c16b1:((wrap64 (rd l0 (ji8))) != 0)=true:=bne_iff_ne.mpr c16
         replace H:=it_ H;obtain ⟨c17,H⟩|⟨c17,H⟩:=H
         ·have c17b0:decide (1000000000 < (Go.bits .or .i64 x7_1 (ji13)))=true:=decide_eq_true c17
          clear c17
          replace H:=so3_ H;obtain ⟨rfl,rfl,rfl⟩:=H
          obtain ⟨ad1,e601,hx1_0,p601,q1⟩:=ai_ HR0.out (ji8)
          cases e601
          go_wp2
          go_ret3
          exact ⟨by first|rfl|(simp;done)|(simp only [← hji8,← hji11,← hji13] <;> (first|rfl|simp))|(simp [*];done),dw_⟩
         ·have c17b0:decide (1000000000 < (Go.bits .or .i64 x7_1 (ji13)))=false:=decide_eq_false c17
          clear c17
          replace H:=so3_ H;obtain ⟨rfl,rfl,rfl⟩:=H
          obtain ⟨ad1,e601,hx1_0,p601,q1⟩:=ai_ HR0.out (ji8)
          cases e601
          go_wp2
          go_ret3
          exact ⟨by first|rfl|(simp;done)|(simp only [← hji8,← hji11,← hji13] <;> (first|rfl|simp))|(simp [*];done),dw_⟩
       ·have c15b0:decide (0 < x8_1)=false:=decide_eq_false c15
        clear c15
        replace H:=it_ H;obtain ⟨c18,H⟩|⟨c18,H⟩:=H
        ·have c18b0:decide (1000000000 < (Go.bits .or .i64 x7_1 (ji13)))=true:=decide_eq_true c18
         clear c18
         replace H:=so3_ H;obtain ⟨rfl,rfl,rfl⟩:=H
         obtain ⟨ad1,e601,hx1_0,p601,q1⟩:=ai_ HR0.out (ji8)
         cases e601
         go_wp2
         go_ret3
         exact ⟨by first|rfl|(simp;done)|(simp only [← hji8,← hji11,← hji13] <;> (first|rfl|simp))|(simp [*];done),dw_⟩
        ·have c18b0:decide (1000000000 < (Go.bits .or .i64 x7_1 (ji13)))=false:=decide_eq_false c18
         clear c18
         replace H:=so3_ H;obtain ⟨rfl,rfl,rfl⟩:=H
         obtain ⟨ad1,e601,hx1_0,p601,q1⟩:=ai_ HR0.out (ji8)
         cases e601
         go_wp2
         go_ret3
         exact ⟨by first|rfl|(simp;done)|(simp only [← hji8,← hji11,← hji13] <;> (first|rfl|simp))|(simp [*];done),dw_⟩
     ·replace H:=so3_ H;obtain ⟨rfl,rfl,rfl⟩:=H
      go_wp2
      go_ret3
      exact ⟨e1_,dw_⟩
def spec_GetText.f (k:Nat) (l0:List Int) (a1:Int):Option (ByteArray × Int × Bool):=(spec_GetNum.f k l0 a1).bind fun bt1=>(if bt1.2.2=true then (if bt1.1 > (wrap64 ((l0.length:Int) - bt1.2.1)) then (some ((⟨#[]⟩:ByteArray),0,false)) else (if 0≤bt1.2.1 then (if bt1.2.1≤(wrap64 (bt1.2.1+bt1.1)) then (if (wrap64 (bt1.2.1+bt1.1))≤(l0.length:Int) then (some (strOfNums ((l0.take ((wrap64 (bt1.2.1+bt1.1)):Int).toNat).drop (bt1.2.1:Int).toNat),wrap64 (bt1.2.1+bt1.1),true)) else (none)) else (none)) else (none))) else (some ((⟨#[]⟩:ByteArray),0,false)))
theorem spec_GetText.calls (k:Nat) (A0:Option Addr) (c0:Nat) (l0:List Int) (a1:Int) (r1:ByteArray) (r2:Int) (r3:Bool) (w:World) (hr0:Kd.C (Kd.int .u8) w A0 l0.length l0) (hc0:l0.length≤c0) (h:spec_GetText.f k l0 a1=some (r1,r2,r3)) :
  Calls Tryz.prog 148 #[.slice A0 l0.length c0,.int .i64 a1] w fun e w'=>e = .returned (.tuple #[.string r1,.int .i64 r2,.bool r3])∧Drawn0 w w':=by
 have HR0:=am_ hr0
 have HC0:=am_ hc0
 clear hr0 hc0
 have H:((spec_GetNum.f k l0 a1).bind fun bt1=>(if bt1.2.2=true then (if bt1.1 > (wrap64 ((l0.length:Int) - bt1.2.1)) then (some ((⟨#[]⟩:ByteArray),0,false)) else (if 0≤bt1.2.1 then (if bt1.2.1≤(wrap64 (bt1.2.1+bt1.1)) then (if (wrap64 (bt1.2.1+bt1.1))≤(l0.length:Int) then (some (strOfNums ((l0.take ((wrap64 (bt1.2.1+bt1.1)):Int).toNat).drop (bt1.2.1:Int).toNat),wrap64 (bt1.2.1+bt1.1),true)) else (none)) else (none)) else (none))) else (some ((⟨#[]⟩:ByteArray),0,false))))=some (r1,r2,r3):=h
 clear h
 replace H:=bi_ H;obtain ⟨⟨t1,t602,t3⟩,A3,H⟩:=H
 dsimp only at H
 replace H:=itb_ H;obtain ⟨rfl,H⟩|⟨rfl,H⟩:=H
 ·replace H:=it_ H;obtain ⟨c5,H⟩|⟨c5,H⟩:=H
  ·have c5b0:decide ((wrap64 ((l0.length:Int) - t602)) < t1)=true:=decide_eq_true c5
   clear c5
   replace H:=so3_ H;obtain ⟨rfl,rfl,rfl⟩:=H
   go_enter Tryz.func148,Tryz.ntmps148
   go_wp2_with (first|((with_reducible refine gq_ 147 13 ?_);refine gc_ 13 Tryz.func147 (spec_GetNum.calls k _ _ l0 a1 t1 t602 true _ (cr_ HR0.out) HC0.out A3.out) ?_;rintro e w' ⟨rfl,⟨nd,rfl⟩⟩;refine ⟨_,rfl,?_⟩))
   go_ret3
   exact ⟨e1_,dw_⟩
  ·have c5b0:decide ((wrap64 ((l0.length:Int) - t602)) < t1)=false:=decide_eq_false c5
   clear c5
   replace H:=ip_ H;obtain ⟨c6,H⟩:=H
   have c6b0:=eq_true c6
   have c6b1:=decide_eq_true c6
   clear c6
   replace H:=ip_ H;obtain ⟨c7,H⟩:=H
   have c7b0:=eq_true c7
   have c7b1:=decide_eq_true c7
   replace H:=ip_ H;obtain ⟨c8,H⟩:=H
   have c8b0:=eq_true c8
   have c8b1:=decide_eq_true c8
   replace H:=so3_ H;obtain ⟨rfl,rfl,rfl⟩:=H
   go_enter Tryz.func148,Tryz.ntmps148
   go_wp2_with (first|((with_reducible refine gq_ 147 13 ?_);refine gc_ 13 Tryz.func147 (spec_GetNum.calls k _ _ l0 a1 t1 t602 true _ (cr_ HR0.out) HC0.out A3.out) ?_;rintro e w' ⟨rfl,⟨nd,rfl⟩⟩;refine ⟨_,rfl,?_⟩;obtain ⟨i09,hi09,_,hsz9,_⟩:=info_parts info5;obtain ⟨A9,hcut9,hA9,hC9⟩:=print_mid_of (P:=Tryz.prog) (Value.int .u8) 0 27 5 .i64 .i64 Tryz.underlying27 hi09 hsz9 A0 c0 l0 t602 (wrap64 (t602+t1)) (od_) (by first|omega|exact od_) (od_) HC0.out;have HR4:=am_ (Kd.C_of_reads (h1:=fun _=>rfl) (hA9 _ (Kd.reads_of_C HR0.out)));have HC4:=am_ hC9;clear hA9 hC9 hi09 hsz9;have hcv10:=Kd.C_string (P:=Tryz.prog) (A:=A9) (c:=(c0 - t602.toNat)) Tryz.underlying27 Tryz.underlying5 Tryz.underlying9 (Kd.C_drewN HR4.out nd);have hcvq10:=hcv10;rw [show ((l0.take ((wrap64 (t602+t1)):Int).toNat).drop (t602:Int).toNat).length=((wrap64 (t602+t1)).toNat - t602.toNat) from (by rw [List.length_drop,List.length_take];have h_:((wrap64 (t602+t1)):Int)≤(l0.length:Int):=od_;omega)] at hcvq10))
   go_ret3
   exact ⟨e1_,dw_⟩
 ·replace H:=so3_ H;obtain ⟨rfl,rfl,rfl⟩:=H
  go_enter Tryz.func148,Tryz.ntmps148
  go_wp2_with (first|((with_reducible refine gq_ 147 13 ?_);refine gc_ 13 Tryz.func147 (spec_GetNum.calls k _ _ l0 a1 t1 t602 false _ (cr_ HR0.out) HC0.out A3.out) ?_;rintro e w' ⟨rfl,⟨nd,rfl⟩⟩;refine ⟨_,rfl,?_⟩))
  go_ret3
  exact ⟨e1_,dw_⟩
def impl_GetText.f (k:Nat) (l0:List Int) (a1:Int):Option (ByteArray × Int × Bool):=(impl_GetNum.f k l0 a1).bind fun bt1=>(if bt1.2.2=true then (if bt1.1 > (wrap64 ((l0.length:Int) - bt1.2.1)) then (some ((⟨#[]⟩:ByteArray),0,false)) else (if 0≤bt1.2.1 then (if bt1.2.1≤(wrap64 (bt1.2.1+bt1.1)) then (if (wrap64 (bt1.2.1+bt1.1))≤(l0.length:Int) then (some (strOfNums ((l0.take ((wrap64 (bt1.2.1+bt1.1)):Int).toNat).drop (bt1.2.1:Int).toNat),wrap64 (bt1.2.1+bt1.1),true)) else (none)) else (none)) else (none))) else (some ((⟨#[]⟩:ByteArray),0,false)))
theorem impl_GetText.calls (k:Nat) (A0:Option Addr) (c0:Nat) (l0:List Int) (a1:Int) (r1:ByteArray) (r2:Int) (r3:Bool) (w:World) (hr0:Kd.C (Kd.int .u8) w A0 l0.length l0) (hc0:l0.length≤c0) (h:impl_GetText.f k l0 a1=some (r1,r2,r3)) :
  Calls Tryz.prog 130 #[.slice A0 l0.length c0,.int .i64 a1] w fun e w'=>e = .returned (.tuple #[.string r1,.int .i64 r2,.bool r3])∧Drawn0 w w':=by
 have HR0:=am_ hr0
 have HC0:=am_ hc0
 clear hr0 hc0
 have H:((impl_GetNum.f k l0 a1).bind fun bt1=>(if bt1.2.2=true then (if bt1.1 > (wrap64 ((l0.length:Int) - bt1.2.1)) then (some ((⟨#[]⟩:ByteArray),0,false)) else (if 0≤bt1.2.1 then (if bt1.2.1≤(wrap64 (bt1.2.1+bt1.1)) then (if (wrap64 (bt1.2.1+bt1.1))≤(l0.length:Int) then (some (strOfNums ((l0.take ((wrap64 (bt1.2.1+bt1.1)):Int).toNat).drop (bt1.2.1:Int).toNat),wrap64 (bt1.2.1+bt1.1),true)) else (none)) else (none)) else (none))) else (some ((⟨#[]⟩:ByteArray),0,false))))=some (r1,r2,r3):=h
 clear h
 replace H:=bi_ H;obtain ⟨⟨t1,t602,t3⟩,A3,H⟩:=H
 dsimp only at H
 replace H:=itb_ H;obtain ⟨rfl,H⟩|⟨rfl,H⟩:=H
 ·replace H:=it_ H;obtain ⟨c5,H⟩|⟨c5,H⟩:=H
  ·have c5b0:decide ((wrap64 ((l0.length:Int) - t602)) < t1)=true:=decide_eq_true c5
   clear c5
   replace H:=so3_ H;obtain ⟨rfl,rfl,rfl⟩:=H
   go_enter Tryz.func130,Tryz.ntmps130
   go_wp2_with (first|((with_reducible refine gq_ 97 13 ?_);refine gc_ 13 Tryz.func97 (impl_GetNum.calls k _ _ l0 a1 t1 t602 true _ (cr_ HR0.out) HC0.out A3.out) ?_;rintro e w' ⟨rfl,⟨nd,rfl⟩⟩;refine ⟨_,rfl,?_⟩))
   go_ret3
   exact ⟨e1_,dw_⟩
  ·have c5b0:decide ((wrap64 ((l0.length:Int) - t602)) < t1)=false:=decide_eq_false c5
   clear c5
   replace H:=ip_ H;obtain ⟨c6,H⟩:=H
   have c6b0:=eq_true c6
   have c6b1:=decide_eq_true c6
   clear c6
   replace H:=ip_ H;obtain ⟨c7,H⟩:=H
   have c7b0:=eq_true c7
   have c7b1:=decide_eq_true c7
   replace H:=ip_ H;obtain ⟨c8,H⟩:=H
   have c8b0:=eq_true c8
   have c8b1:=decide_eq_true c8
   replace H:=so3_ H;obtain ⟨rfl,rfl,rfl⟩:=H
   go_enter Tryz.func130,Tryz.ntmps130
   go_wp2_with (first|((with_reducible refine gq_ 97 13 ?_);refine gc_ 13 Tryz.func97 (impl_GetNum.calls k _ _ l0 a1 t1 t602 true _ (cr_ HR0.out) HC0.out A3.out) ?_;rintro e w' ⟨rfl,⟨nd,rfl⟩⟩;refine ⟨_,rfl,?_⟩;obtain ⟨i09,hi09,_,hsz9,_⟩:=info_parts info5;obtain ⟨A9,hcut9,hA9,hC9⟩:=print_mid_of (P:=Tryz.prog) (Value.int .u8) 0 27 5 .i64 .i64 Tryz.underlying27 hi09 hsz9 A0 c0 l0 t602 (wrap64 (t602+t1)) (od_) (by first|omega|exact od_) (od_) HC0.out;have HR4:=am_ (Kd.C_of_reads (h1:=fun _=>rfl) (hA9 _ (Kd.reads_of_C HR0.out)));have HC4:=am_ hC9;clear hA9 hC9 hi09 hsz9;have hcv10:=Kd.C_string (P:=Tryz.prog) (A:=A9) (c:=(c0 - t602.toNat)) Tryz.underlying27 Tryz.underlying5 Tryz.underlying9 (Kd.C_drewN HR4.out nd);have hcvq10:=hcv10;rw [show ((l0.take ((wrap64 (t602+t1)):Int).toNat).drop (t602:Int).toNat).length=((wrap64 (t602+t1)).toNat - t602.toNat) from (by rw [List.length_drop,List.length_take];have h_:((wrap64 (t602+t1)):Int)≤(l0.length:Int):=od_;omega)] at hcvq10))
   go_ret3
   exact ⟨e1_,dw_⟩
 ·replace H:=so3_ H;obtain ⟨rfl,rfl,rfl⟩:=H
  go_enter Tryz.func130,Tryz.ntmps130
  go_wp2_with (first|((with_reducible refine gq_ 97 13 ?_);refine gc_ 13 Tryz.func97 (impl_GetNum.calls k _ _ l0 a1 t1 t602 false _ (cr_ HR0.out) HC0.out A3.out) ?_;rintro e w' ⟨rfl,⟨nd,rfl⟩⟩;refine ⟨_,rfl,?_⟩))
  go_ret3
  exact ⟨e1_,dw_⟩
mutual
def spec_GetTexts.j0:Nat->List Int->Int->Int->Bool->Option (List ByteArray × Int × Bool)
 | 0,_,_,_,_=>none
 | k+1,x0,x7,x8,x27=>if x27=true then (some ((([]:List ByteArray)),0,false)) else (spec_GetTexts.l0 k x0 x7 x8 (([]:List ByteArray)) 0)
def spec_GetTexts.l0:Nat->List Int->Int->Int->List ByteArray->Int->Option (List ByteArray × Int × Bool)
 | 0,_,_,_,_,_=>none
 | k+1,x0,x7,x8,x10,x11=>if x11 < x7 then ((spec_GetText.f k x0 x8).bind fun bt10=>(if bt10.2.2=true then (if x10.length < 8796093022208 then (spec_GetTexts.l0 k x0 x7 bt10.2.1 (x10 ++ [bt10.1]) (wrap64 (x11+1))) else (none)) else (some ((([]:List ByteArray)),0,false)))) else (some (x10,x8,true))
end
def spec_GetTexts.f (k:Nat) (l0:List Int) (a1:Int):Option (List ByteArray × Int × Bool):=(spec_GetNum.f k l0 a1).bind fun bt1=>(if bt1.2.2=true then (spec_GetTexts.j0 k l0 bt1.1 bt1.2.1 (decide (bt1.1 > 200))) else (spec_GetTexts.j0 k l0 bt1.1 bt1.2.1 true))
theorem spec_GetTexts.calls (k:Nat) (A0:Option Addr) (c0:Nat) (l0:List Int) (a1:Int) (r1:List ByteArray) (r2:Int) (r3:Bool) (w:World) (hr0:Kd.C (Kd.int .u8) w A0 l0.length l0) (hc0:l0.length≤c0) (h:spec_GetTexts.f k l0 a1=some (r1,r2,r3)) :
  Calls Tryz.prog 149 #[.slice A0 l0.length c0,.int .i64 a1] w fun e w'=>∃ v0_:Value,e = .returned (.tuple #[v0_,.int .i64 r2,.bool r3])∧Kd.R Kd.string 9 w' w.heap.size (fun _=>True) v0_ r1∧Below w.heap.size w w':=by
 have HR0:=am_ hr0
 have HC0:=am_ hc0
 clear hr0 hc0
 have HB:=h0_ w
 have H:((spec_GetNum.f k l0 a1).bind fun bt1=>(if bt1.2.2=true then (spec_GetTexts.j0 k l0 bt1.1 bt1.2.1 (decide (bt1.1 > 200))) else (spec_GetTexts.j0 k l0 bt1.1 bt1.2.1 true)))=some (r1,r2,r3):=h
 clear h
 replace H:=bi_ H;obtain ⟨⟨t1,t602,t3⟩,A3,H⟩:=H
 dsimp only at H
 have HC4:=am_ H
 clear H
 go_enter Tryz.func149,Tryz.ntmps149
 go_upto_region 2 with (first|((with_reducible refine gq_ 147 18 ?_);refine gc_ 18 Tryz.func147 (spec_GetNum.calls k _ _ l0 a1 t1 t602 t3 _ (cr_ HR0.out) HC0.out A3.out) ?_;rintro e w' ⟨rfl,⟨nd,rfl⟩⟩;refine ⟨_,rfl,?_⟩))
 (try simp only [Act.put,List.setIfInBounds_toArray,List.set_cons_zero,List.set_cons_succ])
 go_cut [27] (fun v27 wc=>∃ (kq:Nat) (x27_3:Bool),v27 = .bool x27_3∧Aside0 (spec_GetTexts.j0 kq l0 t1 t602 x27_3=some (r1,r2,r3))∧Aside0 (kq≤k)∧Aside0 (Below w.heap.size w wc))
 case first =>
  have H:=HC4.out
  clear HC4
  replace H:=itb_ H;obtain ⟨rfl,H⟩|⟨rfl,H⟩:=H
  ·have H':=am_ H
   clear H
   go_wp2
   go_meet
   case rel => exact ⟨_,(decide (t1 > 200)),e1_,H',⟨le_⟩,⟨bw_ HB⟩⟩
  ·have H':=am_ H
   clear H
   go_wp2
   go_meet
   case rel => exact ⟨_,(true),e1_,H',⟨le_⟩,⟨bw_ HB⟩⟩
 case rest =>
  clear HC4
  obtain ⟨kq,x27_3,rfl,HA,HJ3,HB⟩:=hcut
  cases kq with
  | zero=>exact absurd HA.out (by simp [spec_GetTexts.j0])
  | succ kj3 =>
   have H:=HA.out
   clear HA
   simp only [spec_GetTexts.j0] at H
   replace H:=itb_ H;obtain ⟨rfl,H⟩|⟨rfl,H⟩:=H
   ·obtain ⟨y604,hy4⟩:∃ y_:List ByteArray,y_=(([]:List ByteArray)):=⟨_,rfl⟩
    replace H:(some (y604,0,false))=some (r1,r2,r3):=yh_ hy4 H
    have Ny4:=am_ hy4
    clear hy4
    replace H:=so3_ H;obtain ⟨rfl,rfl,rfl⟩:=H
    go_wp2_with (first|((with_reducible refine gd_ 28 ?_);refine rl_ Kd.string 9 28 ([]:List ByteArray) [] ?_;intro v5 w7 ho8 hb hg_ hnew_;clear hg_ hnew_;(first|rw [← Ny4.out] at ho8|(simp only [Int.reduceToNat] at ho8;rw [← Ny4.out] at ho8));have HO6:=rlo_ ho8 HB;replace HB:=ss_ HB hb;clear hb ho8))
    go_ret3
    exact ⟨_,e2_,kr_ HO6.out,bw_ HB⟩
   ·obtain ⟨y607,hy7⟩:∃ y_:List ByteArray,y_=(([]:List ByteArray)):=⟨_,rfl⟩
    replace H:(spec_GetTexts.l0 kj3 l0 t1 t602 y607 0)=some (r1,r2,r3):=yh_ hy7 H
    have Ny7:=am_ hy7
    clear hy7
    have H':=am_ H
    clear H
    go_wp2_with (first|((with_reducible refine gd_ 29 ?_);refine rl_ Kd.string 9 29 ([]:List ByteArray) [] ?_;intro v608 w9 ho10 hb hg_ hnew_;clear hg_ hnew_;(first|rw [← Ny7.out] at ho10|(simp only [Int.reduceToNat] at ho10;rw [← Ny7.out] at ho10));have HO9:=rlo_ ho10 HB;replace HB:=ss_ HB hb;clear hb ho10))
    go_loopg [8,10,11] kj3 (fun kq v8 v10 v11 w'=>∃ (x8_2:Int) (x10_2:List ByteArray) (x11_2:Int),v8 = .int .i64 x8_2∧v11 = .int .i64 x11_2∧Aside0 (spec_GetTexts.l0 kq l0 t1 x8_2 x10_2 x11_2=some (r1,r2,r3))∧Aside0 (kq≤kj3)∧Aside0 (Kd.R Kd.string 9 w' w.heap.size (fun _=>True) v10 x10_2)∧Aside0 (Below w.heap.size w w'))
    case atStart => exact ⟨(t602),(y607),(0),e1_,e1_,H',⟨Nat.le_refl _⟩,⟨kr_ HO9.out⟩,⟨bw_ HB⟩⟩
    case round =>
     clear H'
     try clear c1
     try clear p2
     try clear c5
     obtain ⟨x8_2,x10_2,x11_2,rfl,rfl,HA,HK2,HO_10,HB⟩:=hrel
     cases gk with
     | zero=>exact absurd HA.out (by simp [spec_GetTexts.l0])
     | succ k2 =>
      have H:=HA.out
      clear HA
      simp only [spec_GetTexts.l0] at H
      replace H:=itd_ H;obtain ⟨c11b0,H⟩|⟨c11b0,H⟩:=H
      ·replace H:=bi_ H;obtain ⟨⟨t10,t11,t12⟩,A12,H⟩:=H
       dsimp only at H
       replace H:=itb_ H;obtain ⟨rfl,H⟩|⟨rfl,H⟩:=H
       ·replace H:=ip_ H;obtain ⟨c14,H⟩:=H
        have LMc14:=am_ c14
        clear c14
        obtain ⟨y13,hy13⟩:∃ y_:List ByteArray,y_=(x10_2 ++ [t10]):=⟨_,rfl⟩
        replace H:(spec_GetTexts.l0 k2 l0 t1 t11 y13 (wrap64 (x11_2+1)))=some (r1,r2,r3):=yh_ hy13 H
        have Ny13:=am_ hy13
        clear hy13
        have H':=am_ H
        clear H
        go_wp2_with (first|((with_reducible refine gq_ 148 38 ?_);refine gc_ 38 Tryz.func148 (spec_GetText.calls k2 _ _ l0 x8_2 t10 t11 true _ (cb_ HR0 HB) HC0.out A12.out) ?_;rintro e w' ⟨rfl,⟨nd,rfl⟩⟩;refine ⟨_,rfl,?_⟩)|((with_reducible refine gate_builtin (b:=.append) (xs:=#[.tmp 45,.tmp 47]) rfl ?_);at_builtin;refine Kd.R_append Kd.string (w0:=w) w.heap.size rfl (.tmp 45) (.tmp 47) 22 9 (.string ⟨#[]⟩) 16 rfl Tryz.underlying22 info9 rfl (by decide) (by omega) u10 x10_2 t10 [.string t10] (fun _=>True) (fun _=>False) rfl rfl ?aP (fun _ hk=>hk.elim) ?aF ?aO ?aB ?aS ?aL ?_;(case aP=>exact rfl);(case aB=>exact (bw_ HB));(case aF=>exact (fun _ _=>trivial));(case aO=>exact (kr_ HO_10.out));(case aS=>exact (sz_ HB));(case aL=>have:=LMc14.out;omega);intro v14 w15 ho hb hg hat;rw [← Ny13.out] at ho;replace HB:=am_ hb;have HO15:=am_ ho;clear HO_10;clear ho hb hg hat))
        go_roundg k2
        case measure => have:=HJ3.out;have:=HK2.out;omega
        case rel => exact ⟨(t11),(y13),(wrap64 (x11_2+1)),e1_,e1_,H',⟨by have:=HJ3.out;have:=HK2.out;omega⟩,⟨kr_ HO15.out⟩,⟨bw_ HB⟩⟩
       ·obtain ⟨y16,hy16⟩:∃ y_:List ByteArray,y_=(([]:List ByteArray)):=⟨_,rfl⟩
        replace H:(some (y16,0,false))=some (r1,r2,r3):=yh_ hy16 H
        have Ny16:=am_ hy16
        clear hy16
        replace H:=so3_ H;obtain ⟨rfl,rfl,rfl⟩:=H
        go_wp2_with (first|((with_reducible refine gq_ 148 38 ?_);refine gc_ 38 Tryz.func148 (spec_GetText.calls k2 _ _ l0 x8_2 t10 t11 false _ (cb_ HR0 HB) HC0.out A12.out) ?_;rintro e w' ⟨rfl,⟨nd,rfl⟩⟩;refine ⟨_,rfl,?_⟩)|((with_reducible refine gd_ 44 ?_);refine rl_ Kd.string 9 44 ([]:List ByteArray) [] ?_;intro v17 w16 ho17 hb hg_ hnew_;clear hg_ hnew_;(first|rw [← Ny16.out] at ho17|(simp only [Int.reduceToNat] at ho17;rw [← Ny16.out] at ho17));have HO18:=am_ (Kd.R_lower (Kd.R_new' ho17 (lt_ HO_10)) (sz_ HB));replace HO_10:=re_ HO_10 ho17 hb;replace HB:=ss_ HB hb;clear hb ho17))
        go_ret3
        exact ⟨_,e2_,km_ HO18,bw_ HB⟩
      ·replace H:=so3_ H;obtain ⟨rfl,rfl,rfl⟩:=H
       go_wp2
       go_ret3
       exact ⟨_,e2_,kr_ HO_10.out,bw_ HB⟩
mutual
def impl_GetTexts.j0:Nat->List Int->Int->Int->Bool->Option (List ByteArray × Int × Bool)
 | 0,_,_,_,_=>none
 | k+1,x0,x7,x8,x26=>if x26=true then (some (([]:List ByteArray),0,false)) else (impl_GetTexts.l0 k x0 x8 ([]:List ByteArray) x7 0)
def impl_GetTexts.l0:Nat->List Int->Int->List ByteArray->Int->Int->Option (List ByteArray × Int × Bool)
 | 0,_,_,_,_,_=>none
 | k+1,x0,x8,x10,x27,x28=>if x28 < x27 then ((impl_GetText.f k x0 x8).bind fun bt4=>(if bt4.2.2=true then (if x10.length < 8796093022208 then (impl_GetTexts.l0 k x0 bt4.2.1 (x10 ++ [bt4.1]) x27 (wrap64 (x28+1))) else (none)) else (some (([]:List ByteArray),0,false)))) else (some (x10,x8,true))
end
def impl_GetTexts.f (k:Nat) (l0:List Int) (a1:Int):Option (List ByteArray × Int × Bool):=(impl_GetNum.f k l0 a1).bind fun bt1=>(if bt1.2.2=true then (impl_GetTexts.j0 k l0 bt1.1 bt1.2.1 (decide (bt1.1 > 200))) else (impl_GetTexts.j0 k l0 bt1.1 bt1.2.1 true))
theorem impl_GetTexts.calls (k:Nat) (A0:Option Addr) (c0:Nat) (l0:List Int) (a1:Int) (r1:List ByteArray) (r2:Int) (r3:Bool) (w:World) (hr0:Kd.C (Kd.int .u8) w A0 l0.length l0) (hc0:l0.length≤c0) (h:impl_GetTexts.f k l0 a1=some (r1,r2,r3)) :
  Calls Tryz.prog 131 #[.slice A0 l0.length c0,.int .i64 a1] w fun e w'=>∃ v0_:Value,e = .returned (.tuple #[v0_,.int .i64 r2,.bool r3])∧Kd.R Kd.string 9 w' w.heap.size (fun _=>True) v0_ r1∧Below w.heap.size w w':=by
 have HR0:=am_ hr0
 have HC0:=am_ hc0
 clear hr0 hc0
 have HB:=h0_ w
 have H:((impl_GetNum.f k l0 a1).bind fun bt1=>(if bt1.2.2=true then (impl_GetTexts.j0 k l0 bt1.1 bt1.2.1 (decide (bt1.1 > 200))) else (impl_GetTexts.j0 k l0 bt1.1 bt1.2.1 true)))=some (r1,r2,r3):=h
 clear h
 replace H:=bi_ H;obtain ⟨⟨t1,t602,t3⟩,A3,H⟩:=H
 dsimp only at H
 have HC4:=am_ H
 clear H
 go_enter Tryz.func131,Tryz.ntmps131
 go_upto_region 2 with (first|((with_reducible refine gq_ 97 17 ?_);refine gc_ 17 Tryz.func97 (impl_GetNum.calls k _ _ l0 a1 t1 t602 t3 _ (cr_ HR0.out) HC0.out A3.out) ?_;rintro e w' ⟨rfl,⟨nd,rfl⟩⟩;refine ⟨_,rfl,?_⟩))
 (try simp only [Act.put,List.setIfInBounds_toArray,List.set_cons_zero,List.set_cons_succ])
 go_cut [26] (fun v26 wc=>∃ (kq:Nat) (x26_3:Bool),v26 = .bool x26_3∧Aside0 (impl_GetTexts.j0 kq l0 t1 t602 x26_3=some (r1,r2,r3))∧Aside0 (kq≤k)∧Aside0 (Below w.heap.size w wc))
 case first =>
  have H:=HC4.out
  clear HC4
  replace H:=itb_ H;obtain ⟨rfl,H⟩|⟨rfl,H⟩:=H
  ·have H':=am_ H
   clear H
   go_wp2
   go_meet
   case rel => exact ⟨_,(decide (t1 > 200)),e1_,H',⟨le_⟩,⟨bw_ HB⟩⟩
  ·have H':=am_ H
   clear H
   go_wp2
   go_meet
   case rel => exact ⟨_,(true),e1_,H',⟨le_⟩,⟨bw_ HB⟩⟩
 case rest =>
  clear HC4
  obtain ⟨kq,x26_3,rfl,HA,HJ3,HB⟩:=hcut
  cases kq with
  | zero=>exact absurd HA.out (by simp [impl_GetTexts.j0])
  | succ kj3 =>
   have H:=HA.out
   clear HA
   simp only [impl_GetTexts.j0] at H
   replace H:=itb_ H;obtain ⟨rfl,H⟩|⟨rfl,H⟩:=H
   ·replace H:=so3_ H;obtain ⟨rfl,rfl,rfl⟩:=H
    go_wp2
    go_ret3
    exact ⟨_,e2_,nil_,bw_ HB⟩
   ·have H':=am_ H
    clear H
    go_wp2
    go_loopg [8,10,28] kj3 (fun kq v8 v10 v28 w'=>∃ (x8_2:Int) (x10_2:List ByteArray) (x28_2:Int),v8 = .int .i64 x8_2∧v28 = .int .i64 x28_2∧Aside0 (impl_GetTexts.l0 kq l0 x8_2 x10_2 t1 x28_2=some (r1,r2,r3))∧Aside0 (kq≤kj3)∧Aside0 (Kd.R Kd.string 9 w' w.heap.size (fun _=>True) v10 x10_2)∧Aside0 (Below w.heap.size w w'))
    case atStart => exact ⟨(t602),(([]:List ByteArray)),(0),e1_,e1_,H',⟨Nat.le_refl _⟩,⟨nil_⟩,⟨bw_ HB⟩⟩
    case round =>
     clear H'
     try clear c1
     try clear p2
     try clear c5
     obtain ⟨x8_2,x10_2,x28_2,rfl,rfl,HA,HK2,HO_10,HB⟩:=hrel
     cases gk with
     | zero=>exact absurd HA.out (by simp [impl_GetTexts.l0])
     | succ k2 =>
      have H:=HA.out
      clear HA
      simp only [impl_GetTexts.l0] at H
      replace H:=itd_ H;obtain ⟨c7b0,H⟩|⟨c7b0,H⟩:=H
      ·replace H:=bi_ H;obtain ⟨⟨t4,t5,t6⟩,A8,H⟩:=H
       dsimp only at H
       replace H:=itb_ H;obtain ⟨rfl,H⟩|⟨rfl,H⟩:=H
       ·replace H:=ip_ H;obtain ⟨c10,H⟩:=H
        have LMc10:=am_ c10
        clear c10
        obtain ⟨y607,hy7⟩:∃ y_:List ByteArray,y_=(x10_2 ++ [t4]):=⟨_,rfl⟩
        replace H:(impl_GetTexts.l0 k2 l0 t5 y607 t1 (wrap64 (x28_2+1)))=some (r1,r2,r3):=yh_ hy7 H
        have Ny7:=am_ hy7
        clear hy7
        have H':=am_ H
        clear H
        go_wp2_with (first|((with_reducible refine gq_ 130 33 ?_);refine gc_ 33 Tryz.func130 (impl_GetText.calls k2 _ _ l0 x8_2 t4 t5 true _ (cb_ HR0 HB) HC0.out A8.out) ?_;rintro e w' ⟨rfl,⟨nd,rfl⟩⟩;refine ⟨_,rfl,?_⟩)|((with_reducible refine gate_builtin (b:=.append) (xs:=#[.tmp 39,.tmp 41]) rfl ?_);at_builtin;refine Kd.R_append Kd.string (w0:=w) w.heap.size rfl (.tmp 39) (.tmp 41) 22 9 (.string ⟨#[]⟩) 16 rfl Tryz.underlying22 info9 rfl (by decide) (by omega) u10 x10_2 t4 [.string t4] (fun _=>True) (fun _=>False) rfl rfl ?aP (fun _ hk=>hk.elim) ?aF ?aO ?aB ?aS ?aL ?_;(case aP=>exact rfl);(case aB=>exact (bw_ HB));(case aF=>exact (fun _ _=>trivial));(case aO=>exact (kr_ HO_10.out));(case aS=>exact (sz_ HB));(case aL=>have:=LMc10.out;omega);intro v608 w11 ho hb hg hat;rw [← Ny7.out] at ho;replace HB:=am_ hb;have HO9:=am_ ho;clear HO_10;clear ho hb hg hat))
        go_roundg k2
        case measure => have:=HJ3.out;have:=HK2.out;omega
        case rel => exact ⟨(t5),(y607),(wrap64 (x28_2+1)),e1_,e1_,H',⟨by have:=HJ3.out;have:=HK2.out;omega⟩,⟨kr_ HO9.out⟩,⟨bw_ HB⟩⟩
       ·replace H:=so3_ H;obtain ⟨rfl,rfl,rfl⟩:=H
        go_wp2_with (first|((with_reducible refine gq_ 130 33 ?_);refine gc_ 33 Tryz.func130 (impl_GetText.calls k2 _ _ l0 x8_2 t4 t5 false _ (cb_ HR0 HB) HC0.out A8.out) ?_;rintro e w' ⟨rfl,⟨nd,rfl⟩⟩;refine ⟨_,rfl,?_⟩))
        go_ret3
        exact ⟨_,e2_,nil_,bw_ HB⟩
      ·replace H:=so3_ H;obtain ⟨rfl,rfl,rfl⟩:=H
       go_wp2
       go_ret3
       exact ⟨_,e2_,kr_ HO_10.out,bw_ HB⟩
def IsS116 (w0 W:World) (g:Nat) (f0:List Int) (f1:Int) (f2:Bool):Prop:=∃ A0 c0,W.heap[g]?=some (.cells #[.slice A0 f0.length c0,.int .i64 f1,.bool f2] 116 (0,0))∧w0.heap.size≤g∧Kd.C (Kd.int .u8) w0 A0 f0.length f0∧f0.length≤c0
theorem IsS116.grown {w0 W:World} {g:Nat} {f0:List Int} {f1:Int} {f2:Bool} {W1:World} {row:Option Nat} (h:IsS116 w0 W g f0 f1 f2) (hw:W.grownBy W1 row) (hne:some g ≠ row):IsS116 w0 W1 g f0 f1 f2:=by
 obtain ⟨A0,c0,hb,hg,hr0,hq0⟩:=h
 exact ⟨A0,c0,blk_grown hb hw hne,hg,hr0,hq0⟩
theorem IsS116.kept {w0 W:World} {g:Nat} {f0:List Int} {f1:Int} {f2:Bool} {W1:World} {S:Nat->Prop} (h:IsS116 w0 W g f0 f1 f2) (hk:Kept W W1 S) (hne:¬ S g):IsS116 w0 W1 g f0 f1 f2:=by
 obtain ⟨A0,c0,hb,hg,hr0,hq0⟩:=h
 exact ⟨A0,c0,blk_kept hb hk hne,hg,hr0,hq0⟩
theorem IsS116.below {w0 W:World} {g:Nat} {f0:List Int} {f1:Int} {f2:Bool} {W1:World} (h:IsS116 w0 W g f0 f1 f2) (hw:Below W.heap.size W W1):IsS116 w0 W1 g f0 f1 f2:=h.grown (grown_of_below hw none) (by simp)
theorem IsS116.alloc {w0 W:World} {g:Nat} {f0:List Int} {f1:Int} {f2:Bool} (h:IsS116 w0 W g f0 f1 f2) (o:Obj):IsS116 w0 (W.alloc o) g f0 f1 f2:=h.below (below_alloc (Below.refl _ _) o)
theorem IsS116.drewN {w0 W:World} {g:Nat} {f0:List Int} {f1:Int} {f2:Bool} (h:IsS116 w0 W g f0 f1 f2) (m:Nat):IsS116 w0 (W.drewN m) g f0 f1 f2:=h
theorem IsS116.drew {w0 W:World} {g:Nat} {f0:List Int} {f1:Int} {f2:Bool} (h:IsS116 w0 W g f0 f1 f2):IsS116 w0 W.drew g f0 f1 f2:=h
theorem IsS116.at_ {w0 W:World} {g:Nat} {f0:List Int} {f1:Int} {f2:Bool} {w':World} {m:Nat} (hq:W.drewN m=w') (h:IsS116 w0 W g f0 f1 f2):IsS116 w0 w' g f0 f1 f2:=by subst hq;exact IsS116.drewN h m
theorem IsS116.apart {w0 W:World} {g:Nat} {f0:List Int} {f1:Int} {f2:Bool} {α:Type} {d:Kd α} {e:Nat} {base:Nat} {ok:Nat->Prop} {v:Value} {xs:List α} (h:IsS116 w0 W g f0 f1 f2) (ho:d.R e W base ok v xs) (ht:∀ q,q ∈ e :: d.E->q ≠ 116):d.R e W base (fun k=>ok k∧k ≠ g) v xs:=by
 obtain ⟨A0,c0,hb,hg,hr0,hq0⟩:=h
 exact Kd.R_types ho hb ht
theorem IsS116.own_ne {w0 W:World} {g:Nat} {f0:List Int} {f1:Int} {f2:Bool} {α:Type} {d:Kd α} {e:Nat} {base:Nat} {ok:Nat->Prop} {v:Value} {xs:List α} (h:IsS116 w0 W g f0 f1 f2) (ho:d.R e W base ok v xs) (ht:e ≠ 116):some g ≠ v.ownBlock:=by
 obtain ⟨A0,c0,hb,hg,hr0,hq0⟩:=h
 exact Kd.R_ne ho hb ht
theorem IsS116.called {w0 W:World} {g:Nat} {f0:List Int} {f1:Int} {f2:Bool} {P:Program} {f_:FuncId} {as_:Array Value} {Q_:Ending->World->Prop} (h:IsS116 w0 W g f0 f1 f2) (k:Aside0 (IsS116 w0 W g f0 f1 f2)->Calls P f_ as_ W Q_):Calls P f_ as_ W Q_:=k ⟨h⟩
theorem IsS116.lt {w0 W:World} {g:Nat} {f0:List Int} {f1:Int} {f2:Bool} (h:IsS116 w0 W g f0 f1 f2):g < W.heap.size:=by
 obtain ⟨A0,c0,hb,hg,hr0,hq0⟩:=h
 exact blk_lt hb
theorem IsS116.ge {w0 W:World} {g:Nat} {f0:List Int} {f1:Int} {f2:Bool} (h:IsS116 w0 W g f0 f1 f2):w0.heap.size≤g:=by
 obtain ⟨A0,c0,hb,hg,hr0,hq0⟩:=h
 exact hg
theorem IsS116.ne_blk {w0 W:World} {g:Nat} {f0:List Int} {f1:Int} {f2:Bool} {a:Nat} {cs:Array Value} {t:TypeId} {fr:Nat × Nat} (h:IsS116 w0 W g f0 f1 f2) (hb2:W.heap[a]?=some (.cells cs t fr)) (ht:t ≠ 116):g ≠ a:=by
 obtain ⟨A0,c0,hb,hg,hr0,hq0⟩:=h
 rintro rfl
 rw [hb] at hb2
 injection hb2 with hb2
 injection hb2 with _ ht2
 exact ht ht2.symm
theorem IsS116.far {w0 W:World} {g:Nat} {f0:List Int} {f1:Int} {f2:Bool} {p:Addr} (h:IsS116 w0 W g f0 f1 f2) (hne:g ≠ p.block) (u:Value):IsS116 w0 (W.setCell p u) g f0 f1 f2:=by
 obtain ⟨A0,c0,hb,hg,hr0,hq0⟩:=h
 exact ⟨A0,c0,blk_far hb hne u,hg,hr0,hq0⟩
theorem cellS116_0 {W:World} {g:Nat} {A0:Option Addr} {c0:Nat} {f0:List Int} {f1:Int} {f2:Bool} (h:W.heap[g]?=some (.cells #[.slice A0 f0.length c0,.int .i64 f1,.bool f2] 116 (0,0))):W.cell? ⟨g,0,none⟩=some (.slice A0 f0.length c0):=(blk_cell h 0).trans rfl
theorem cellS116_1 {W:World} {g:Nat} {A0:Option Addr} {c0:Nat} {f0:List Int} {f1:Int} {f2:Bool} (h:W.heap[g]?=some (.cells #[.slice A0 f0.length c0,.int .i64 f1,.bool f2] 116 (0,0))):W.cell? ⟨g,1,none⟩=some (.int .i64 f1):=(blk_cell h 1).trans rfl
theorem IsS116.set_1 {w0 W:World} {g:Nat} {f0:List Int} {f1:Int} {f2:Bool} (h:IsS116 w0 W g f0 f1 f2) (x:Int):IsS116 w0 (W.setCell ⟨g,1,none⟩ (.int .i64 x)) g f0 x f2:=by
 obtain ⟨A0,c0,hb,hg,hr0,hq0⟩:=h
 exact ⟨A0,c0,by simpa using blk_set hb 1 (.int .i64 x),hg,hr0,hq0⟩
theorem cellS116_2 {W:World} {g:Nat} {A0:Option Addr} {c0:Nat} {f0:List Int} {f1:Int} {f2:Bool} (h:W.heap[g]?=some (.cells #[.slice A0 f0.length c0,.int .i64 f1,.bool f2] 116 (0,0))):W.cell? ⟨g,2,none⟩=some (.bool f2):=(blk_cell h 2).trans rfl
theorem IsS116.set_2 {w0 W:World} {g:Nat} {f0:List Int} {f1:Int} {f2:Bool} (h:IsS116 w0 W g f0 f1 f2) (x:Bool):IsS116 w0 (W.setCell ⟨g,2,none⟩ (.bool x)) g f0 f1 x:=by
 obtain ⟨A0,c0,hb,hg,hr0,hq0⟩:=h
 exact ⟨A0,c0,by simpa using blk_set hb 2 (.bool x),hg,hr0,hq0⟩
theorem IsS116.new (w0 W:World) (A0:Option Addr) (c0:Nat) (f0:List Int) (f1:Int) (f2:Bool) (hB:Below w0.heap.size w0 W) (hr0:Kd.C (Kd.int .u8) w0 A0 f0.length f0) (hq0:f0.length≤c0):IsS116 w0 (W.alloc (.cells #[.slice A0 f0.length c0,.int .i64 f1,.bool f2] 116)) W.heap.size f0 f1 f2:=⟨A0,c0,by simpa using heap_alloc_new W _,hB.size,hr0,hq0⟩
theorem in116_ {w0 w1 w2:World} {g:Nat} {f0:List Int} {f1:Int} {f2:Bool} {f02:List Int} {f12:Int} {f22:Bool} (h:Aside0 (IsS116 w0 w1 g f0 f1 f2)) (f:IsS116 w0 w1 g f0 f1 f2->IsS116 w0 w2 g f02 f12 f22:=by intro h_;repeat (first|(with_reducible first|exact h_|apply IsS116.alloc|apply IsS116.drewN|apply IsS116.drew|apply IsS116.set_1|apply IsS116.set_2|refine IsS116.far ?_ (Aside0.out (by assumption)) _)|exact h_)):IsS116 w0 w2 g f02 f12 f22:=f h.out
theorem bi116_ {w w1 w2:World} (h:Aside0 (Below w.heap.size w w1)) (g:Below w.heap.size w w1->Below w.heap.size w w2:=by intro h_;repeat (first|(with_reducible first|exact h_|apply below_alloc|apply pw_below_drewN|apply below_drew1|refine below_set ?_ (Aside0.out (by assumption))|refine below_set ?_ (IsS116.ge (Aside0.out (by assumption))))|exact h_)):Below w.heap.size w w2:=g h.out
def impl_getter_num.f (k:Nat) (s0_0:List Int) (s0_1:Int) (s0_2:Bool):Option (Int × Int × Bool):=(impl_GetNum.f k s0_0 s0_1).bind fun bt1=>(if s0_2=true then (some (0,s0_1,true)) else (if bt1.2.2=true then (some (bt1.1,bt1.2.1,s0_2)) else (some (0,s0_1,true))))
theorem impl_getter_num.calls (k:Nat) (g:Nat) (s0_0:List Int) (s0_1:Int) (s0_2:Bool) (r1:Int) (r2:Int) (r3:Bool) (w0 w:World) (hI:IsS116 w0 w g s0_0 s0_1 s0_2) (hB:Below w0.heap.size w0 w) (h:impl_getter_num.f k s0_0 s0_1 s0_2=some (r1,r2,r3)) :
  Calls Tryz.prog 98 #[.pointer (some ⟨g,0,none⟩)] w fun e w'=>e = .returned (.int .i64 r1)∧IsS116 w0 w' g s0_0 r2 r3∧Below w0.heap.size w0 w'∧KeepBut w w' g none:=by
 have HI0:=am_ hI
 have HK:=am_ (KeepBut.refl w g none)
 have HL:=am_ hB.size
 clear hI
 have HW0:=am_ hB.size
 have HB:=am_ hB
 clear hB
 have H:((impl_GetNum.f k s0_0 s0_1).bind fun bt1=>(if s0_2=true then (some (0,s0_1,true)) else (if bt1.2.2=true then (some (bt1.1,bt1.2.1,s0_2)) else (some (0,s0_1,true)))))=some (r1,r2,r3):=h
 clear h
 replace H:=bi_ H;obtain ⟨⟨t1,t602,t3⟩,A2,H⟩:=H
 dsimp only at H
 replace H:=itb_ H;obtain ⟨rfl,H⟩|⟨rfl,H⟩:=H
 ·replace H:=so3_ H;obtain ⟨rfl,rfl,rfl⟩:=H
  obtain ⟨ASz4_0,cSz4_0,HGz4,hgz4,HSz4_0,HSQz4_0⟩:=HI0.out
  have hcz4_0:=cellS116_0 HGz4
  have hcz4_1:=cellS116_1 HGz4
  have hcz4_2:=cellS116_2 HGz4
  have hfz4_1:=blk_frozen HGz4 1
  have hfz4_2:=blk_frozen HGz4 2
  clear HGz4 hgz4
  go_enter Tryz.func98,Tryz.ntmps98
  go_wp2_with (first|(go_at_call 97;(with_reducible refine (impl_GetNum.calls k _ _ s0_0 s0_1 t1 t602 t3 _ ?side1 ?side2 A2.out).mono ?_);(case side1=>exact Kd.C_below HSz4_0 (bs1_ HB (IsS116.ge HI0.out)));(case side2=>exact HSQz4_0);rintro e w' ⟨rfl,⟨nd,rfl⟩⟩;(try first|exact ⟨rfl,_,World.drewN_drewN _ _ _⟩|exact ⟨rfl,_,Eq.trans (World.drewN_drewN _ _ _) (congrArg (World.drewN _) (Nat.add_assoc _ _ _))⟩)))
  repeat (go_quiet (first|(go_at_call 97;(with_reducible refine (impl_GetNum.calls k _ _ s0_0 s0_1 t1 t602 t3 _ ?side1 ?side2 A2.out).mono ?_);(case side1=>exact Kd.C_below HSz4_0 (bs1_ HB (IsS116.ge HI0.out)));(case side2=>exact HSQz4_0);rintro e w' ⟨rfl,⟨nd,rfl⟩⟩;(try first|exact ⟨rfl,_,World.drewN_drewN _ _ _⟩|exact ⟨rfl,_,Eq.trans (World.drewN_drewN _ _ _) (congrArg (World.drewN _) (Nat.add_assoc _ _ _))⟩)));try go_wp2_with (first|(go_at_call 97;(with_reducible refine (impl_GetNum.calls k _ _ s0_0 s0_1 t1 t602 t3 _ ?side1 ?side2 A2.out).mono ?_);(case side1=>exact Kd.C_below HSz4_0 (bs1_ HB (IsS116.ge HI0.out)));(case side2=>exact HSQz4_0);rintro e w' ⟨rfl,⟨nd,rfl⟩⟩;(try first|exact ⟨rfl,_,World.drewN_drewN _ _ _⟩|exact ⟨rfl,_,Eq.trans (World.drewN_drewN _ _ _) (congrArg (World.drewN _) (Nat.add_assoc _ _ _))⟩))))
  go_ret
  exact ⟨e2_,in116_ HI0,bi116_ HB,kn_ HK⟩
 ·replace H:=itb_ H;obtain ⟨rfl,H⟩|⟨rfl,H⟩:=H
  ·replace H:=so3_ H;obtain ⟨rfl,rfl,rfl⟩:=H
   obtain ⟨ASz6_0,cSz6_0,HGz6,hgz6,HSz6_0,HSQz6_0⟩:=HI0.out
   have hcz6_0:=cellS116_0 HGz6
   have hcz6_1:=cellS116_1 HGz6
   have hcz6_2:=cellS116_2 HGz6
   have hfz6_1:=blk_frozen HGz6 1
   have hfz6_2:=blk_frozen HGz6 2
   clear HGz6 hgz6
   go_enter Tryz.func98,Tryz.ntmps98
   go_wp2_with (first|(go_at_call 97;(with_reducible refine (impl_GetNum.calls k _ _ s0_0 s0_1 t1 t602 true _ ?side1 ?side2 A2.out).mono ?_);(case side1=>exact Kd.C_below HSz6_0 (bs1_ HB (IsS116.ge HI0.out)));(case side2=>exact HSQz6_0);rintro e w' ⟨rfl,⟨nd,rfl⟩⟩;(try first|exact ⟨rfl,_,World.drewN_drewN _ _ _⟩|exact ⟨rfl,_,Eq.trans (World.drewN_drewN _ _ _) (congrArg (World.drewN _) (Nat.add_assoc _ _ _))⟩)))
   repeat (go_quiet (first|(go_at_call 97;(with_reducible refine (impl_GetNum.calls k _ _ s0_0 s0_1 t1 t602 true _ ?side1 ?side2 A2.out).mono ?_);(case side1=>exact Kd.C_below HSz6_0 (bs1_ HB (IsS116.ge HI0.out)));(case side2=>exact HSQz6_0);rintro e w' ⟨rfl,⟨nd,rfl⟩⟩;(try first|exact ⟨rfl,_,World.drewN_drewN _ _ _⟩|exact ⟨rfl,_,Eq.trans (World.drewN_drewN _ _ _) (congrArg (World.drewN _) (Nat.add_assoc _ _ _))⟩)));try go_wp2_with (first|(go_at_call 97;(with_reducible refine (impl_GetNum.calls k _ _ s0_0 s0_1 t1 t602 true _ ?side1 ?side2 A2.out).mono ?_);(case side1=>exact Kd.C_below HSz6_0 (bs1_ HB (IsS116.ge HI0.out)));(case side2=>exact HSQz6_0);rintro e w' ⟨rfl,⟨nd,rfl⟩⟩;(try first|exact ⟨rfl,_,World.drewN_drewN _ _ _⟩|exact ⟨rfl,_,Eq.trans (World.drewN_drewN _ _ _) (congrArg (World.drewN _) (Nat.add_assoc _ _ _))⟩))))
   go_ret
   exact ⟨e2_,in116_ HI0,bi116_ HB,kn_ HK⟩
  ·replace H:=so3_ H;obtain ⟨rfl,rfl,rfl⟩:=H
   obtain ⟨ASz7_0,cSz7_0,HGz7,hgz7,HSz7_0,HSQz7_0⟩:=HI0.out
   have hcz7_0:=cellS116_0 HGz7
   have hcz7_1:=cellS116_1 HGz7
   have hcz7_2:=cellS116_2 HGz7
   have hfz7_1:=blk_frozen HGz7 1
   have hfz7_2:=blk_frozen HGz7 2
   clear HGz7 hgz7
   go_enter Tryz.func98,Tryz.ntmps98
   go_wp2_with (first|(go_at_call 97;(with_reducible refine (impl_GetNum.calls k _ _ s0_0 s0_1 t1 t602 false _ ?side1 ?side2 A2.out).mono ?_);(case side1=>exact Kd.C_below HSz7_0 (bs1_ HB (IsS116.ge HI0.out)));(case side2=>exact HSQz7_0);rintro e w' ⟨rfl,⟨nd,rfl⟩⟩;(try first|exact ⟨rfl,_,World.drewN_drewN _ _ _⟩|exact ⟨rfl,_,Eq.trans (World.drewN_drewN _ _ _) (congrArg (World.drewN _) (Nat.add_assoc _ _ _))⟩)))
   repeat (go_quiet (first|(go_at_call 97;(with_reducible refine (impl_GetNum.calls k _ _ s0_0 s0_1 t1 t602 false _ ?side1 ?side2 A2.out).mono ?_);(case side1=>exact Kd.C_below HSz7_0 (bs1_ HB (IsS116.ge HI0.out)));(case side2=>exact HSQz7_0);rintro e w' ⟨rfl,⟨nd,rfl⟩⟩;(try first|exact ⟨rfl,_,World.drewN_drewN _ _ _⟩|exact ⟨rfl,_,Eq.trans (World.drewN_drewN _ _ _) (congrArg (World.drewN _) (Nat.add_assoc _ _ _))⟩)));try go_wp2_with (first|(go_at_call 97;(with_reducible refine (impl_GetNum.calls k _ _ s0_0 s0_1 t1 t602 false _ ?side1 ?side2 A2.out).mono ?_);(case side1=>exact Kd.C_below HSz7_0 (bs1_ HB (IsS116.ge HI0.out)));(case side2=>exact HSQz7_0);rintro e w' ⟨rfl,⟨nd,rfl⟩⟩;(try first|exact ⟨rfl,_,World.drewN_drewN _ _ _⟩|exact ⟨rfl,_,Eq.trans (World.drewN_drewN _ _ _) (congrArg (World.drewN _) (Nat.add_assoc _ _ _))⟩))))
   go_ret
   exact ⟨e2_,in116_ HI0,bi116_ HB,kn_ HK⟩
def impl_getter_texts.f (k:Nat) (s:List Int) (a:Int) (b:Bool):Option (List ByteArray × Int × Bool):=(impl_GetTexts.f k s a).bind fun x=>(if b=true then (some (([]:List ByteArray),a,true)) else (if x.2.2=true then (some (x.1,x.2.1,b)) else (some (([]:List ByteArray),a,true))))
theorem impl_getter_texts.calls (k:Nat) (g:Nat) (s0_0:List Int) (s0_1:Int) (s0_2:Bool) (r1:List ByteArray) (r2:Int) (r3:Bool) (w0 w:World) (hI:IsS116 w0 w g s0_0 s0_1 s0_2) (hB:Below w0.heap.size w0 w) (h:impl_getter_texts.f k s0_0 s0_1 s0_2=some (r1,r2,r3)) :
  Calls Tryz.prog 100 #[.pointer (some ⟨g,0,none⟩)] w fun e w'=>∃ v0_:Value,e = .returned (v0_)∧Kd.R Kd.string 9 w' w.heap.size (fun _=>True) v0_ r1∧IsS116 w0 w' g s0_0 r2 r3∧Below w0.heap.size w0 w'∧KeepBut w w' g none:=by
 unfold impl_getter_texts.f at h
 obtain ⟨⟨t1,t2,t3⟩,A2,h⟩:=Option.bind_eq_some_iff.mp h
 obtain ⟨A,c,HG,hg,HS,HSQ⟩:=hI
 have HI:=am_ (show IsS116 w0 w g s0_0 s0_1 s0_2 from ⟨A,c,HG,hg,HS,HSQ⟩)
 have HA:=am_ A2
 have HC:=am_ (Kd.C_below HS hB)
 have HQ:=am_ HSQ
 have HB:=am_ hB
 have HSZ:=am_ hB.size
 have hcz_0:w.cell? ⟨g,0,none⟩=some (.slice A s0_0.length c):=(blk_cell HG 0).trans rfl
 have hcz_1:w.cell? ⟨g,1,none⟩=some (.int .i64 s0_1):=(blk_cell HG 1).trans rfl
 have H:=am_ h
 clear A2 HG hg HS HSQ hB h
 cases s0_2 with
 | true =>
  have h:=H.out
  rw [if_pos rfl] at h
  simp only [Option.some.injEq,Prod.mk.injEq] at h
  obtain ⟨rfl,rfl,rfl⟩:=h
  clear H
  go_enter Tryz.func100,Tryz.ntmps100
  go_wp2
  refine start_ (n:=16) (S:=fun w'=>w'.cell? ⟨g,0,none⟩=some (.slice A s0_0.length c)∧w'.cell? ⟨g,1,none⟩=some (.int .i64 s0_1)) (ds:=[8]) (lz_ 16 0) (by kernel_rfl) rfl rfl ⟨hcz_0,hcz_1⟩ (fun hHeld=>?_)
  refine pure_ (i:=0) (N:=some 7) (v:=?_) (a':=?_) (lz_ 16 1) rfl rfl (by kernel_rfl) (fun _ _ _ h=>h) (Or.inl ⟨by rfl,?_⟩) ?_ ?_
  rotate_left
  ·intro w'
   go_simp
   with_reducible rfl
  rotate_left
  ·refine sm_ ?_
   rfl
  refine pure_ (i:=1) (N:=some 8) (v:=?_) (a':=?_) (lz_ 16 3) rfl rfl (by kernel_rfl) (fun _ _ _ h=>h) (Or.inl ⟨by rfl,?_⟩) ?_ ?_
  rotate_left
  ·intro w'
   go_simp
   with_reducible rfl
  rotate_left
  ·refine sm_ ?_
   rfl
  refine pure_ (i:=2) (N:=some 9) (v:=?_) (a':=?_) (lz_ 16 7) rfl rfl (by kernel_rfl) (fun _ _ _ h=>h) (Or.inl ⟨by rfl,?_⟩) ?_ ?_
  rotate_left
  ·intro w'
   go_simp
   with_reducible rfl
  rotate_left
  ·refine sm_ ?_
   rfl
  refine pure_ (i:=4) (N:=some 11) (v:=?_) (a':=?_) (lz_ 16 23) rfl rfl (by kernel_rfl) (fun _ _ _ h=>h) (Or.inl ⟨by rfl,?_⟩) ?_ ?_
  rotate_left
  ·intro w'
   go_simp
   with_reducible rfl
  rotate_left
  ·refine sm_ ?_
   rfl
  refine pure_ (i:=5) (N:=some 12) (v:=?_) (a':=?_) (lz_ 16 55) rfl rfl (by kernel_rfl) (fun _ _ _ h=>h) (Or.inl ⟨by rfl,?_⟩) ?_ ?_
  rotate_left
  ·intro w'
   go_simp
   with_reducible rfl
  rotate_left
  ·refine sm_ ?_
   rfl
  refine pure_ (i:=6) (N:=some 13) (v:=?_) (a':=?_) (lz_ 16 119) rfl rfl (by kernel_rfl) (fun _ _ _ h=>h) (Or.inl ⟨by rfl,?_⟩) ?_ ?_
  rotate_left
  ·intro w'
   go_simp
   with_reducible rfl
  rotate_left
  ·refine sm_ ?_
   rfl
  refine take_ (i:=3) (N:=some 10) (v:=?_) (a':=?_) (lz_ 16 127) rfl rfl (by kernel_rfl) (fun _ _ _ h=>h) (Or.inl ⟨by rfl,?_⟩) hHeld ?_ ?_
  rotate_left
  ·rintro w' ⟨s0,s1⟩
   go_simp
   with_reducible rfl
  rotate_left
  ·refine sm_ ?_
   rfl
  refine take_ (i:=7) (N:=some 14) (v:=?_) (a':=?_) (lz_ 16 255) rfl rfl (by kernel_rfl) (fun _ _ _ h=>h) (Or.inl ⟨by rfl,?_⟩) hHeld ?_ ?_
  rotate_left
  ·rintro w' ⟨s0,s1⟩
   go_simp
   with_reducible rfl
  rotate_left
  ·refine sm_ ?_
   rfl
  refine last_ (i:=8) (N:=some 15) (lz_ 16 511) rfl rfl (by kernel_rfl) (by decide) (fun K hK=>?_)
  refine goes_ Tryz.func131 (by kernel_rfl) rfl #[.slice A s0_0.length c,.int .i64 s0_1] (by rfl) rfl rfl (by simp only [List.map_toArray,List.map_cons,List.map_nil];rfl) ?_
  with_reducible refine (impl_GetTexts.calls k A c s0_0 s0_1 _ _ _ w.drew (Kd.C_drew HC.out) HQ.out HA.out).mono ?_
  rintro e w3 ⟨v,rfl,ho,hb⟩
  refine ⟨_,rfl,?_⟩
  refine hK.out _ _ ?_
  clear hK K
  refine norm_ (a':=?_) ?_ ?_
  rotate_left
  ·show Act.put _ (some 15) _=_
   simp only [Act.put,List.setIfInBounds_toArray,List.set_cons_zero,List.set_cons_succ,i64_w,i32_w]
   rfl
  refine pure_ (i:=9) (N:=some 6) (v:=?_) (a':=?_) (lz_ 16 1023) rfl rfl (by kernel_rfl) (fun _ _ _ h=>h) (Or.inl ⟨by rfl,?_⟩) ?_ ?_
  rotate_left
  ·intro w'
   go_simp
   with_reducible rfl
  rotate_left
  ·refine sm_ ?_
   rfl
  refine pure_ (i:=10) (N:=some 16) (v:=?_) (a':=?_) (lz_ 16 2047) rfl rfl (by kernel_rfl) (fun _ _ _ h=>h) (Or.inl ⟨by rfl,?_⟩) ?_ ?_
  rotate_left
  ·intro w'
   go_simp
   with_reducible rfl
  rotate_left
  ·refine sm_ ?_
   rfl
  refine pure_ (i:=11) (N:=some 17) (v:=?_) (a':=?_) (lz_ 16 4095) rfl rfl (by kernel_rfl) (fun _ _ _ h=>h) (Or.inl ⟨by rfl,?_⟩) ?_ ?_
  rotate_left
  ·intro w'
   go_simp
   with_reducible rfl
  rotate_left
  ·refine sm_ ?_
   rfl
  refine pure_ (i:=12) (N:=some 18) (v:=?_) (a':=?_) (lz_ 16 8191) rfl rfl (by kernel_rfl) (fun _ _ _ h=>h) (Or.inl ⟨by rfl,?_⟩) ?_ ?_
  rotate_left
  ·intro w'
   go_simp
   with_reducible rfl
  rotate_left
  ·refine sm_ ?_
   rfl
  refine pure_ (i:=13) (N:=some 3) (v:=?_) (a':=?_) (lz_ 16 16383) rfl rfl (by kernel_rfl) (fun _ _ _ h=>h) (Or.inl ⟨by rfl,?_⟩) ?_ ?_
  rotate_left
  ·intro w'
   go_simp
   with_reducible rfl
  rotate_left
  ·refine sm_ ?_
   rfl
  refine pure_ (i:=14) (N:=some 4) (v:=?_) (a':=?_) (lz_ 16 32767) rfl rfl (by kernel_rfl) (fun _ _ _ h=>h) (Or.inl ⟨by rfl,?_⟩) ?_ ?_
  rotate_left
  ·intro w'
   go_simp
   with_reducible rfl
  rotate_left
  ·refine sm_ ?_
   rfl
  refine pure_ (i:=15) (N:=some 5) (v:=?_) (a':=?_) (lz_ 16 65535) rfl rfl (by kernel_rfl) (fun _ _ _ h=>h) (Or.inl ⟨by rfl,?_⟩) ?_ ?_
  rotate_left
  ·intro w'
   go_simp
   with_reducible rfl
  rotate_left
  ·refine sm_ ?_
   rfl
  refine done_ (by kernel_rfl) ?_
  have HI3:=am_ (IsS116.below (IsS116.drew HI.out) hb)
  have HB3:=am_ (below_step (below_drew1 HB.out) hb)
  have HK3:=am_ (show KeepBut w w3 g none from KeepBut.of_below hb g none)
  have HO:=am_ (show Kd.R Kd.string 9 w3 w.heap.size (fun _=>True) v t1 from ho)
  obtain ⟨A4,c4,HG,hg,HS,HSQ⟩:=HI3.out
  have hcy_1:=cellS116_1 HG
  have hcy_2:=cellS116_2 HG
  have hfy_1:=blk_frozen HG 1
  have hfy_2:=blk_frozen HG 2
  have HG3:=am_ HG
  clear HG hg HS HSQ ho hb hHeld hcz_0 hcz_1
  go_wp2
  go_ret
  refine ⟨_,rfl,Kd.R_nil _ _ _ _ _,IsS116.set_2 HI3.out true,below_set HB3.out (IsS116.ge HI3.out),KeepBut.set_ HK3.out _ _⟩
 | false =>
  have h:=H.out
  rw [if_neg (by decide)] at h
  clear H
  cases t3 with
  | true =>
   rw [if_pos rfl] at h
   simp only [Option.some.injEq,Prod.mk.injEq] at h
   obtain ⟨rfl,rfl,rfl⟩:=h
   go_enter Tryz.func100,Tryz.ntmps100
   go_wp2
   refine start_ (n:=16) (S:=fun w'=>w'.cell? ⟨g,0,none⟩=some (.slice A s0_0.length c)∧w'.cell? ⟨g,1,none⟩=some (.int .i64 s0_1)) (ds:=[8]) (lz_ 16 0) (by kernel_rfl) rfl rfl ⟨hcz_0,hcz_1⟩ (fun hHeld=>?_)
   refine pure_ (i:=0) (N:=some 7) (v:=?_) (a':=?_) (lz_ 16 1) rfl rfl (by kernel_rfl) (fun _ _ _ h=>h) (Or.inl ⟨by rfl,?_⟩) ?_ ?_
   rotate_left
   ·intro w'
    go_simp
    with_reducible rfl
   rotate_left
   ·refine sm_ ?_
    rfl
   refine pure_ (i:=1) (N:=some 8) (v:=?_) (a':=?_) (lz_ 16 3) rfl rfl (by kernel_rfl) (fun _ _ _ h=>h) (Or.inl ⟨by rfl,?_⟩) ?_ ?_
   rotate_left
   ·intro w'
    go_simp
    with_reducible rfl
   rotate_left
   ·refine sm_ ?_
    rfl
   refine pure_ (i:=2) (N:=some 9) (v:=?_) (a':=?_) (lz_ 16 7) rfl rfl (by kernel_rfl) (fun _ _ _ h=>h) (Or.inl ⟨by rfl,?_⟩) ?_ ?_
   rotate_left
   ·intro w'
    go_simp
    with_reducible rfl
   rotate_left
   ·refine sm_ ?_
    rfl
   refine pure_ (i:=4) (N:=some 11) (v:=?_) (a':=?_) (lz_ 16 23) rfl rfl (by kernel_rfl) (fun _ _ _ h=>h) (Or.inl ⟨by rfl,?_⟩) ?_ ?_
   rotate_left
   ·intro w'
    go_simp
    with_reducible rfl
   rotate_left
   ·refine sm_ ?_
    rfl
   refine pure_ (i:=5) (N:=some 12) (v:=?_) (a':=?_) (lz_ 16 55) rfl rfl (by kernel_rfl) (fun _ _ _ h=>h) (Or.inl ⟨by rfl,?_⟩) ?_ ?_
   rotate_left
   ·intro w'
    go_simp
    with_reducible rfl
   rotate_left
   ·refine sm_ ?_
    rfl
   refine pure_ (i:=6) (N:=some 13) (v:=?_) (a':=?_) (lz_ 16 119) rfl rfl (by kernel_rfl) (fun _ _ _ h=>h) (Or.inl ⟨by rfl,?_⟩) ?_ ?_
   rotate_left
   ·intro w'
    go_simp
    with_reducible rfl
   rotate_left
   ·refine sm_ ?_
    rfl
   refine take_ (i:=3) (N:=some 10) (v:=?_) (a':=?_) (lz_ 16 127) rfl rfl (by kernel_rfl) (fun _ _ _ h=>h) (Or.inl ⟨by rfl,?_⟩) hHeld ?_ ?_
   rotate_left
   ·rintro w' ⟨s0,s1⟩
    go_simp
    with_reducible rfl
   rotate_left
   ·refine sm_ ?_
    rfl
   refine take_ (i:=7) (N:=some 14) (v:=?_) (a':=?_) (lz_ 16 255) rfl rfl (by kernel_rfl) (fun _ _ _ h=>h) (Or.inl ⟨by rfl,?_⟩) hHeld ?_ ?_
   rotate_left
   ·rintro w' ⟨s0,s1⟩
    go_simp
    with_reducible rfl
   rotate_left
   ·refine sm_ ?_
    rfl
   refine last_ (i:=8) (N:=some 15) (lz_ 16 511) rfl rfl (by kernel_rfl) (by decide) (fun K hK=>?_)
   refine goes_ Tryz.func131 (by kernel_rfl) rfl #[.slice A s0_0.length c,.int .i64 s0_1] (by rfl) rfl rfl (by simp only [List.map_toArray,List.map_cons,List.map_nil];rfl) ?_
   with_reducible refine (impl_GetTexts.calls k A c s0_0 s0_1 _ _ _ w.drew (Kd.C_drew HC.out) HQ.out HA.out).mono ?_
   rintro e w3 ⟨v,rfl,ho,hb⟩
   refine ⟨_,rfl,?_⟩
   refine hK.out _ _ ?_
   clear hK K
   refine norm_ (a':=?_) ?_ ?_
   rotate_left
   ·show Act.put _ (some 15) _=_
    simp only [Act.put,List.setIfInBounds_toArray,List.set_cons_zero,List.set_cons_succ,i64_w,i32_w]
    rfl
   refine pure_ (i:=9) (N:=some 6) (v:=?_) (a':=?_) (lz_ 16 1023) rfl rfl (by kernel_rfl) (fun _ _ _ h=>h) (Or.inl ⟨by rfl,?_⟩) ?_ ?_
   rotate_left
   ·intro w'
    go_simp
    with_reducible rfl
   rotate_left
   ·refine sm_ ?_
    rfl
   refine pure_ (i:=10) (N:=some 16) (v:=?_) (a':=?_) (lz_ 16 2047) rfl rfl (by kernel_rfl) (fun _ _ _ h=>h) (Or.inl ⟨by rfl,?_⟩) ?_ ?_
   rotate_left
   ·intro w'
    go_simp
    with_reducible rfl
   rotate_left
   ·refine sm_ ?_
    rfl
   refine pure_ (i:=11) (N:=some 17) (v:=?_) (a':=?_) (lz_ 16 4095) rfl rfl (by kernel_rfl) (fun _ _ _ h=>h) (Or.inl ⟨by rfl,?_⟩) ?_ ?_
   rotate_left
   ·intro w'
    go_simp
    with_reducible rfl
   rotate_left
   ·refine sm_ ?_
    rfl
   refine pure_ (i:=12) (N:=some 18) (v:=?_) (a':=?_) (lz_ 16 8191) rfl rfl (by kernel_rfl) (fun _ _ _ h=>h) (Or.inl ⟨by rfl,?_⟩) ?_ ?_
   rotate_left
   ·intro w'
    go_simp
    with_reducible rfl
   rotate_left
   ·refine sm_ ?_
    rfl
   refine pure_ (i:=13) (N:=some 3) (v:=?_) (a':=?_) (lz_ 16 16383) rfl rfl (by kernel_rfl) (fun _ _ _ h=>h) (Or.inl ⟨by rfl,?_⟩) ?_ ?_
   rotate_left
   ·intro w'
    go_simp
    with_reducible rfl
   rotate_left
   ·refine sm_ ?_
    rfl
   refine pure_ (i:=14) (N:=some 4) (v:=?_) (a':=?_) (lz_ 16 32767) rfl rfl (by kernel_rfl) (fun _ _ _ h=>h) (Or.inl ⟨by rfl,?_⟩) ?_ ?_
   rotate_left
   ·intro w'
    go_simp
    with_reducible rfl
   rotate_left
   ·refine sm_ ?_
    rfl
   refine pure_ (i:=15) (N:=some 5) (v:=?_) (a':=?_) (lz_ 16 65535) rfl rfl (by kernel_rfl) (fun _ _ _ h=>h) (Or.inl ⟨by rfl,?_⟩) ?_ ?_
   rotate_left
   ·intro w'
    go_simp
    with_reducible rfl
   rotate_left
   ·refine sm_ ?_
    rfl
   refine done_ (by kernel_rfl) ?_
   have HI3:=am_ (IsS116.below (IsS116.drew HI.out) hb)
   have HB3:=am_ (below_step (below_drew1 HB.out) hb)
   have HK3:=am_ (show KeepBut w w3 g none from KeepBut.of_below hb g none)
   have HO:=am_ (show Kd.R Kd.string 9 w3 w.heap.size (fun _=>True) v t1 from ho)
   obtain ⟨A4,c4,HG,hg,HS,HSQ⟩:=HI3.out
   have hcy_1:=cellS116_1 HG
   have hcy_2:=cellS116_2 HG
   have hfy_1:=blk_frozen HG 1
   have hfy_2:=blk_frozen HG 2
   have HG3:=am_ HG
   clear HG hg HS HSQ ho hb hHeld hcz_0 hcz_1
   go_wp2
   go_ret
   refine ⟨_,rfl,Kd.R_mono (Kd.R_far (p:=⟨g,1,none⟩) (Kd.R_types HO.out HG3.out (by decide)) (fun _ hk=>hk.2) _) (fun _ h=>trivial),IsS116.set_1 HI3.out t2,below_set HB3.out (IsS116.ge HI3.out),KeepBut.set_ HK3.out _ _⟩
  | false =>
   rw [if_neg (by simp)] at h
   simp only [Option.some.injEq,Prod.mk.injEq] at h
   obtain ⟨rfl,rfl,rfl⟩:=h
   go_enter Tryz.func100,Tryz.ntmps100
   go_wp2
   refine start_ (n:=16) (S:=fun w'=>w'.cell? ⟨g,0,none⟩=some (.slice A s0_0.length c)∧w'.cell? ⟨g,1,none⟩=some (.int .i64 s0_1)) (ds:=[8]) (lz_ 16 0) (by kernel_rfl) rfl rfl ⟨hcz_0,hcz_1⟩ (fun hHeld=>?_)
   refine pure_ (i:=0) (N:=some 7) (v:=?_) (a':=?_) (lz_ 16 1) rfl rfl (by kernel_rfl) (fun _ _ _ h=>h) (Or.inl ⟨by rfl,?_⟩) ?_ ?_
   rotate_left
   ·intro w'
    go_simp
    with_reducible rfl
   rotate_left
   ·refine sm_ ?_
    rfl
   refine pure_ (i:=1) (N:=some 8) (v:=?_) (a':=?_) (lz_ 16 3) rfl rfl (by kernel_rfl) (fun _ _ _ h=>h) (Or.inl ⟨by rfl,?_⟩) ?_ ?_
   rotate_left
   ·intro w'
    go_simp
    with_reducible rfl
   rotate_left
   ·refine sm_ ?_
    rfl
   refine pure_ (i:=2) (N:=some 9) (v:=?_) (a':=?_) (lz_ 16 7) rfl rfl (by kernel_rfl) (fun _ _ _ h=>h) (Or.inl ⟨by rfl,?_⟩) ?_ ?_
   rotate_left
   ·intro w'
    go_simp
    with_reducible rfl
   rotate_left
   ·refine sm_ ?_
    rfl
   refine pure_ (i:=4) (N:=some 11) (v:=?_) (a':=?_) (lz_ 16 23) rfl rfl (by kernel_rfl) (fun _ _ _ h=>h) (Or.inl ⟨by rfl,?_⟩) ?_ ?_
   rotate_left
   ·intro w'
    go_simp
    with_reducible rfl
   rotate_left
   ·refine sm_ ?_
    rfl
   refine pure_ (i:=5) (N:=some 12) (v:=?_) (a':=?_) (lz_ 16 55) rfl rfl (by kernel_rfl) (fun _ _ _ h=>h) (Or.inl ⟨by rfl,?_⟩) ?_ ?_
   rotate_left
   ·intro w'
    go_simp
    with_reducible rfl
   rotate_left
   ·refine sm_ ?_
    rfl
   refine pure_ (i:=6) (N:=some 13) (v:=?_) (a':=?_) (lz_ 16 119) rfl rfl (by kernel_rfl) (fun _ _ _ h=>h) (Or.inl ⟨by rfl,?_⟩) ?_ ?_
   rotate_left
   ·intro w'
    go_simp
    with_reducible rfl
   rotate_left
   ·refine sm_ ?_
    rfl
   refine take_ (i:=3) (N:=some 10) (v:=?_) (a':=?_) (lz_ 16 127) rfl rfl (by kernel_rfl) (fun _ _ _ h=>h) (Or.inl ⟨by rfl,?_⟩) hHeld ?_ ?_
   rotate_left
   ·rintro w' ⟨s0,s1⟩
    go_simp
    with_reducible rfl
   rotate_left
   ·refine sm_ ?_
    rfl
   refine take_ (i:=7) (N:=some 14) (v:=?_) (a':=?_) (lz_ 16 255) rfl rfl (by kernel_rfl) (fun _ _ _ h=>h) (Or.inl ⟨by rfl,?_⟩) hHeld ?_ ?_
   rotate_left
   ·rintro w' ⟨s0,s1⟩
    go_simp
    with_reducible rfl
   rotate_left
   ·refine sm_ ?_
    rfl
   refine last_ (i:=8) (N:=some 15) (lz_ 16 511) rfl rfl (by kernel_rfl) (by decide) (fun K hK=>?_)
   refine goes_ Tryz.func131 (by kernel_rfl) rfl #[.slice A s0_0.length c,.int .i64 s0_1] (by rfl) rfl rfl (by simp only [List.map_toArray,List.map_cons,List.map_nil];rfl) ?_
   with_reducible refine (impl_GetTexts.calls k A c s0_0 s0_1 _ _ _ w.drew (Kd.C_drew HC.out) HQ.out HA.out).mono ?_
   rintro e w3 ⟨v,rfl,ho,hb⟩
   refine ⟨_,rfl,?_⟩
   refine hK.out _ _ ?_
   clear hK K
   refine norm_ (a':=?_) ?_ ?_
   rotate_left
   ·show Act.put _ (some 15) _=_
    simp only [Act.put,List.setIfInBounds_toArray,List.set_cons_zero,List.set_cons_succ,i64_w,i32_w]
    rfl
   refine pure_ (i:=9) (N:=some 6) (v:=?_) (a':=?_) (lz_ 16 1023) rfl rfl (by kernel_rfl) (fun _ _ _ h=>h) (Or.inl ⟨by rfl,?_⟩) ?_ ?_
   rotate_left
   ·intro w'
    go_simp
    with_reducible rfl
   rotate_left
   ·refine sm_ ?_
    rfl
   refine pure_ (i:=10) (N:=some 16) (v:=?_) (a':=?_) (lz_ 16 2047) rfl rfl (by kernel_rfl) (fun _ _ _ h=>h) (Or.inl ⟨by rfl,?_⟩) ?_ ?_
   rotate_left
   ·intro w'
    go_simp
    with_reducible rfl
   rotate_left
   ·refine sm_ ?_
    rfl
   refine pure_ (i:=11) (N:=some 17) (v:=?_) (a':=?_) (lz_ 16 4095) rfl rfl (by kernel_rfl) (fun _ _ _ h=>h) (Or.inl ⟨by rfl,?_⟩) ?_ ?_
   rotate_left
   ·intro w'
    go_simp
    with_reducible rfl
   rotate_left
   ·refine sm_ ?_
    rfl
   refine pure_ (i:=12) (N:=some 18) (v:=?_) (a':=?_) (lz_ 16 8191) rfl rfl (by kernel_rfl) (fun _ _ _ h=>h) (Or.inl ⟨by rfl,?_⟩) ?_ ?_
   rotate_left
   ·intro w'
    go_simp
    with_reducible rfl
   rotate_left
   ·refine sm_ ?_
    rfl
   refine pure_ (i:=13) (N:=some 3) (v:=?_) (a':=?_) (lz_ 16 16383) rfl rfl (by kernel_rfl) (fun _ _ _ h=>h) (Or.inl ⟨by rfl,?_⟩) ?_ ?_
   rotate_left
   ·intro w'
    go_simp
    with_reducible rfl
   rotate_left
   ·refine sm_ ?_
    rfl
   refine pure_ (i:=14) (N:=some 4) (v:=?_) (a':=?_) (lz_ 16 32767) rfl rfl (by kernel_rfl) (fun _ _ _ h=>h) (Or.inl ⟨by rfl,?_⟩) ?_ ?_
   rotate_left
   ·intro w'
    go_simp
    with_reducible rfl
   rotate_left
   ·refine sm_ ?_
    rfl
   refine pure_ (i:=15) (N:=some 5) (v:=?_) (a':=?_) (lz_ 16 65535) rfl rfl (by kernel_rfl) (fun _ _ _ h=>h) (Or.inl ⟨by rfl,?_⟩) ?_ ?_
   rotate_left
   ·intro w'
    go_simp
    with_reducible rfl
   rotate_left
   ·refine sm_ ?_
    rfl
   refine done_ (by kernel_rfl) ?_
   have HI3:=am_ (IsS116.below (IsS116.drew HI.out) hb)
   have HB3:=am_ (below_step (below_drew1 HB.out) hb)
   have HK3:=am_ (show KeepBut w w3 g none from KeepBut.of_below hb g none)
   have HO:=am_ (show Kd.R Kd.string 9 w3 w.heap.size (fun _=>True) v t1 from ho)
   obtain ⟨A4,c4,HG,hg,HS,HSQ⟩:=HI3.out
   have hcy_1:=cellS116_1 HG
   have hcy_2:=cellS116_2 HG
   have hfy_1:=blk_frozen HG 1
   have hfy_2:=blk_frozen HG 2
   have HG3:=am_ HG
   clear HG hg HS HSQ ho hb hHeld hcz_0 hcz_1
   go_wp2
   go_ret
   refine ⟨_,rfl,Kd.R_nil _ _ _ _ _,IsS116.set_2 HI3.out true,below_set HB3.out (IsS116.ge HI3.out),KeepBut.set_ HK3.out _ _⟩
def impl_getter_text.f (k:Nat) (s0_0:List Int) (s0_1:Int) (s0_2:Bool):Option (ByteArray × Int × Bool):=(impl_GetText.f k s0_0 s0_1).bind fun bt1=>(if s0_2=true then (some ((⟨#[]⟩:ByteArray),s0_1,true)) else (if bt1.2.2=true then (some (bt1.1,bt1.2.1,s0_2)) else (some ((⟨#[]⟩:ByteArray),s0_1,true))))
theorem impl_getter_text.calls (k:Nat) (g:Nat) (s0_0:List Int) (s0_1:Int) (s0_2:Bool) (r1:ByteArray) (r2:Int) (r3:Bool) (w0 w:World) (hI:IsS116 w0 w g s0_0 s0_1 s0_2) (hB:Below w0.heap.size w0 w) (h:impl_getter_text.f k s0_0 s0_1 s0_2=some (r1,r2,r3)) :
  Calls Tryz.prog 99 #[.pointer (some ⟨g,0,none⟩)] w fun e w'=>e = .returned (.string r1)∧IsS116 w0 w' g s0_0 r2 r3∧Below w0.heap.size w0 w'∧KeepBut w w' g none:=by
 have HI0:=am_ hI
 have HK:=am_ (KeepBut.refl w g none)
 have HL:=am_ hB.size
 clear hI
 have HW0:=am_ hB.size
 have HB:=am_ hB
 clear hB
 have H:((impl_GetText.f k s0_0 s0_1).bind fun bt1=>(if s0_2=true then (some ((⟨#[]⟩:ByteArray),s0_1,true)) else (if bt1.2.2=true then (some (bt1.1,bt1.2.1,s0_2)) else (some ((⟨#[]⟩:ByteArray),s0_1,true)))))=some (r1,r2,r3):=h
 clear h
 replace H:=bi_ H;obtain ⟨⟨t1,t602,t3⟩,A2,H⟩:=H
 dsimp only at H
 replace H:=itb_ H;obtain ⟨rfl,H⟩|⟨rfl,H⟩:=H
 ·replace H:=so3_ H;obtain ⟨rfl,rfl,rfl⟩:=H
  obtain ⟨ASz4_0,cSz4_0,HGz4,hgz4,HSz4_0,HSQz4_0⟩:=HI0.out
  have hcz4_0:=cellS116_0 HGz4
  have hcz4_1:=cellS116_1 HGz4
  have hcz4_2:=cellS116_2 HGz4
  have hfz4_1:=blk_frozen HGz4 1
  have hfz4_2:=blk_frozen HGz4 2
  clear HGz4 hgz4
  go_enter Tryz.func99,Tryz.ntmps99
  go_wp2_with (first|(go_at_call 130;(with_reducible refine (impl_GetText.calls k _ _ s0_0 s0_1 t1 t602 t3 _ ?side1 ?side2 A2.out).mono ?_);(case side1=>exact Kd.C_below HSz4_0 (bs1_ HB (IsS116.ge HI0.out)));(case side2=>exact HSQz4_0);rintro e w' ⟨rfl,⟨nd,rfl⟩⟩;(try first|exact ⟨rfl,_,World.drewN_drewN _ _ _⟩|exact ⟨rfl,_,Eq.trans (World.drewN_drewN _ _ _) (congrArg (World.drewN _) (Nat.add_assoc _ _ _))⟩)))
  repeat (go_quiet (first|(go_at_call 130;(with_reducible refine (impl_GetText.calls k _ _ s0_0 s0_1 t1 t602 t3 _ ?side1 ?side2 A2.out).mono ?_);(case side1=>exact Kd.C_below HSz4_0 (bs1_ HB (IsS116.ge HI0.out)));(case side2=>exact HSQz4_0);rintro e w' ⟨rfl,⟨nd,rfl⟩⟩;(try first|exact ⟨rfl,_,World.drewN_drewN _ _ _⟩|exact ⟨rfl,_,Eq.trans (World.drewN_drewN _ _ _) (congrArg (World.drewN _) (Nat.add_assoc _ _ _))⟩)));try go_wp2_with (first|(go_at_call 130;(with_reducible refine (impl_GetText.calls k _ _ s0_0 s0_1 t1 t602 t3 _ ?side1 ?side2 A2.out).mono ?_);(case side1=>exact Kd.C_below HSz4_0 (bs1_ HB (IsS116.ge HI0.out)));(case side2=>exact HSQz4_0);rintro e w' ⟨rfl,⟨nd,rfl⟩⟩;(try first|exact ⟨rfl,_,World.drewN_drewN _ _ _⟩|exact ⟨rfl,_,Eq.trans (World.drewN_drewN _ _ _) (congrArg (World.drewN _) (Nat.add_assoc _ _ _))⟩))))
  go_ret
  exact ⟨e2_,in116_ HI0,bi116_ HB,kn_ HK⟩
 ·replace H:=itb_ H;obtain ⟨rfl,H⟩|⟨rfl,H⟩:=H
  ·replace H:=so3_ H;obtain ⟨rfl,rfl,rfl⟩:=H
   obtain ⟨ASz6_0,cSz6_0,HGz6,hgz6,HSz6_0,HSQz6_0⟩:=HI0.out
   have hcz6_0:=cellS116_0 HGz6
   have hcz6_1:=cellS116_1 HGz6
   have hcz6_2:=cellS116_2 HGz6
   have hfz6_1:=blk_frozen HGz6 1
   have hfz6_2:=blk_frozen HGz6 2
   clear HGz6 hgz6
   go_enter Tryz.func99,Tryz.ntmps99
   go_wp2_with (first|(go_at_call 130;(with_reducible refine (impl_GetText.calls k _ _ s0_0 s0_1 t1 t602 true _ ?side1 ?side2 A2.out).mono ?_);(case side1=>exact Kd.C_below HSz6_0 (bs1_ HB (IsS116.ge HI0.out)));(case side2=>exact HSQz6_0);rintro e w' ⟨rfl,⟨nd,rfl⟩⟩;(try first|exact ⟨rfl,_,World.drewN_drewN _ _ _⟩|exact ⟨rfl,_,Eq.trans (World.drewN_drewN _ _ _) (congrArg (World.drewN _) (Nat.add_assoc _ _ _))⟩)))
   repeat (go_quiet (first|(go_at_call 130;(with_reducible refine (impl_GetText.calls k _ _ s0_0 s0_1 t1 t602 true _ ?side1 ?side2 A2.out).mono ?_);(case side1=>exact Kd.C_below HSz6_0 (bs1_ HB (IsS116.ge HI0.out)));(case side2=>exact HSQz6_0);rintro e w' ⟨rfl,⟨nd,rfl⟩⟩;(try first|exact ⟨rfl,_,World.drewN_drewN _ _ _⟩|exact ⟨rfl,_,Eq.trans (World.drewN_drewN _ _ _) (congrArg (World.drewN _) (Nat.add_assoc _ _ _))⟩)));try go_wp2_with (first|(go_at_call 130;(with_reducible refine (impl_GetText.calls k _ _ s0_0 s0_1 t1 t602 true _ ?side1 ?side2 A2.out).mono ?_);(case side1=>exact Kd.C_below HSz6_0 (bs1_ HB (IsS116.ge HI0.out)));(case side2=>exact HSQz6_0);rintro e w' ⟨rfl,⟨nd,rfl⟩⟩;(try first|exact ⟨rfl,_,World.drewN_drewN _ _ _⟩|exact ⟨rfl,_,Eq.trans (World.drewN_drewN _ _ _) (congrArg (World.drewN _) (Nat.add_assoc _ _ _))⟩))))
   go_ret
   exact ⟨e2_,in116_ HI0,bi116_ HB,kn_ HK⟩
  ·replace H:=so3_ H;obtain ⟨rfl,rfl,rfl⟩:=H
   obtain ⟨ASz7_0,cSz7_0,HGz7,hgz7,HSz7_0,HSQz7_0⟩:=HI0.out
   have hcz7_0:=cellS116_0 HGz7
   have hcz7_1:=cellS116_1 HGz7
   have hcz7_2:=cellS116_2 HGz7
   have hfz7_1:=blk_frozen HGz7 1
   have hfz7_2:=blk_frozen HGz7 2
   clear HGz7 hgz7
   go_enter Tryz.func99,Tryz.ntmps99
   go_wp2_with (first|(go_at_call 130;(with_reducible refine (impl_GetText.calls k _ _ s0_0 s0_1 t1 t602 false _ ?side1 ?side2 A2.out).mono ?_);(case side1=>exact Kd.C_below HSz7_0 (bs1_ HB (IsS116.ge HI0.out)));(case side2=>exact HSQz7_0);rintro e w' ⟨rfl,⟨nd,rfl⟩⟩;(try first|exact ⟨rfl,_,World.drewN_drewN _ _ _⟩|exact ⟨rfl,_,Eq.trans (World.drewN_drewN _ _ _) (congrArg (World.drewN _) (Nat.add_assoc _ _ _))⟩)))
   repeat (go_quiet (first|(go_at_call 130;(with_reducible refine (impl_GetText.calls k _ _ s0_0 s0_1 t1 t602 false _ ?side1 ?side2 A2.out).mono ?_);(case side1=>exact Kd.C_below HSz7_0 (bs1_ HB (IsS116.ge HI0.out)));(case side2=>exact HSQz7_0);rintro e w' ⟨rfl,⟨nd,rfl⟩⟩;(try first|exact ⟨rfl,_,World.drewN_drewN _ _ _⟩|exact ⟨rfl,_,Eq.trans (World.drewN_drewN _ _ _) (congrArg (World.drewN _) (Nat.add_assoc _ _ _))⟩)));try go_wp2_with (first|(go_at_call 130;(with_reducible refine (impl_GetText.calls k _ _ s0_0 s0_1 t1 t602 false _ ?side1 ?side2 A2.out).mono ?_);(case side1=>exact Kd.C_below HSz7_0 (bs1_ HB (IsS116.ge HI0.out)));(case side2=>exact HSQz7_0);rintro e w' ⟨rfl,⟨nd,rfl⟩⟩;(try first|exact ⟨rfl,_,World.drewN_drewN _ _ _⟩|exact ⟨rfl,_,Eq.trans (World.drewN_drewN _ _ _) (congrArg (World.drewN _) (Nat.add_assoc _ _ _))⟩))))
   go_ret
   exact ⟨e2_,in116_ HI0,bi116_ HB,kn_ HK⟩
def spec_HeadOk.f (a0_0:Int) (a0_1:ByteArray):Option (Bool):=(spec_l1In.f a0_0 0 200).bind fun t602=>(if t602=true then (some ((a0_1.size:Int) == 32)) else (some false))
theorem spec_HeadOk.calls (a0_0:Int) (a0_1:ByteArray) (r:Bool) (w:World) (h:spec_HeadOk.f a0_0 a0_1=some r) :
  Calls Tryz.prog 74 #[.agg #[.int .i64 a0_0,.string a0_1]] w fun e w'=>e = .returned (.bool r)∧Below w.heap.size w w':=by
 have hu37:=Tryz.underlying37
 have HB:=h0_ w
 have H:((spec_l1In.f a0_0 0 200).bind fun t602=>(if t602=true then (some ((a0_1.size:Int) == 32)) else (some false)))=some r:=h
 clear h
 replace H:=bi_ H;obtain ⟨t602,A2,H⟩:=H
 replace H:=itb_ H;obtain ⟨rfl,H⟩|⟨rfl,H⟩:=H
 ·obtain rfl:=Option.some.inj H
  go_enter Tryz.func74,Tryz.ntmps74
  go_wp2_with (first|((with_reducible refine gd_ 1 ?_);(try (refine gate_guard (by rfl) ?_;dsimp only));refine bx_ 1 37 #[.int .i64 a0_0,.string a0_1] (hx_ HB ?_);clear HB;intro gb1 w4 BK1 GW1 HB;have GE1:=GW1;have hz5:=cz2_ BK1)|((with_reducible refine gq_ 72 5 ?_);refine gc_ 5 Tryz.func72 (spec_l1In.calls a0_0 0 200 true _ A2.out) ?_;rintro e w' ⟨rfl,⟨nd,rfl⟩⟩;refine ⟨_,rfl,?_⟩))
  go_ret
  exact ⟨e2_,bw_ HB⟩
 ·obtain rfl:=Option.some.inj H
  go_enter Tryz.func74,Tryz.ntmps74
  go_wp2_with (first|((with_reducible refine gd_ 1 ?_);(try (refine gate_guard (by rfl) ?_;dsimp only));refine bx_ 1 37 #[.int .i64 a0_0,.string a0_1] (hx_ HB ?_);clear HB;intro gb1 w6 BK1 GW1 HB;have GE1:=GW1;have hz7:=cz2_ BK1)|((with_reducible refine gq_ 72 5 ?_);refine gc_ 5 Tryz.func72 (spec_l1In.calls a0_0 0 200 false _ A2.out) ?_;rintro e w' ⟨rfl,⟨nd,rfl⟩⟩;refine ⟨_,rfl,?_⟩))
  go_ret
  exact ⟨e2_,bw_ HB⟩
def impl_HeadOk.f (a0_0:Int) (a0_1:ByteArray):Option (Bool):=(impl_inRange.f a0_0 0 200).bind fun t602=>(if t602=true then (some ((a0_1.size:Int) == 32)) else (some false))
theorem impl_HeadOk.calls (a0_0:Int) (a0_1:ByteArray) (r:Bool) (w:World) (h:impl_HeadOk.f a0_0 a0_1=some r) :
  Calls Tryz.prog 60 #[.agg #[.int .i64 a0_0,.string a0_1]] w fun e w'=>e = .returned (.bool r)∧Below w.heap.size w w':=by
 have hu37:=Tryz.underlying37
 have HB:=h0_ w
 have H:((impl_inRange.f a0_0 0 200).bind fun t602=>(if t602=true then (some ((a0_1.size:Int) == 32)) else (some false)))=some r:=h
 clear h
 replace H:=bi_ H;obtain ⟨t602,A2,H⟩:=H
 replace H:=itb_ H;obtain ⟨rfl,H⟩|⟨rfl,H⟩:=H
 ·obtain rfl:=Option.some.inj H
  go_enter Tryz.func60,Tryz.ntmps60
  go_wp2_with (first|((with_reducible refine gd_ 1 ?_);(try (refine gate_guard (by rfl) ?_;dsimp only));refine bx_ 1 37 #[.int .i64 a0_0,.string a0_1] (hx_ HB ?_);clear HB;intro gb1 w4 BK1 GW1 HB;have GE1:=GW1;have hz5:=cz2_ BK1)|((with_reducible refine gq_ 63 5 ?_);refine gc_ 5 Tryz.func63 (impl_inRange.calls a0_0 0 200 true _ A2.out) ?_;rintro e w' ⟨rfl,⟨nd,rfl⟩⟩;refine ⟨_,rfl,?_⟩))
  go_ret
  exact ⟨e2_,bw_ HB⟩
 ·obtain rfl:=Option.some.inj H
  go_enter Tryz.func60,Tryz.ntmps60
  go_wp2_with (first|((with_reducible refine gd_ 1 ?_);(try (refine gate_guard (by rfl) ?_;dsimp only));refine bx_ 1 37 #[.int .i64 a0_0,.string a0_1] (hx_ HB ?_);clear HB;intro gb1 w6 BK1 GW1 HB;have GE1:=GW1;have hz7:=cz2_ BK1)|((with_reducible refine gq_ 63 5 ?_);refine gc_ 5 Tryz.func63 (impl_inRange.calls a0_0 0 200 false _ A2.out) ?_;rintro e w' ⟨rfl,⟨nd,rfl⟩⟩;refine ⟨_,rfl,?_⟩))
  go_ret
  exact ⟨e2_,bw_ HB⟩
def bytes_Equal.f (l0:List Int) (l1:List Int):Option (Bool):=some ((strOfNums l0).toList == (strOfNums l1).toList)
theorem bytes_Equal.calls (A0:Option Addr) (c0:Nat) (l0:List Int) (A1:Option Addr) (c1:Nat) (l1:List Int) (r:Bool) (w:World) (hr0:Kd.C (Kd.int .u8) w A0 l0.length l0) (hc0:l0.length≤c0) (hr1:Kd.C (Kd.int .u8) w A1 l1.length l1) (hc1:l1.length≤c1) (h:bytes_Equal.f l0 l1=some r) :
  Calls Tryz.prog 101 #[.slice A0 l0.length c0,.slice A1 l1.length c1] w fun e w'=>e = .returned (.bool r)∧Drawn0 w w':=by
 have HR0:=am_ hr0
 have HC0:=am_ hc0
 clear hr0 hc0
 have HR1:=am_ hr1
 have HC1:=am_ hc1
 clear hr1 hc1
 have H:(some ((strOfNums l0).toList == (strOfNums l1).toList))=some r:=h
 clear h
 obtain rfl:=Option.some.inj H
 have hcv3:=Kd.C_string (P:=Tryz.prog) (A:=A0) (c:=c0) Tryz.underlying27 Tryz.underlying5 Tryz.underlying9 HR0.out
 have hcv4:=Kd.C_string (P:=Tryz.prog) (A:=A1) (c:=c1) Tryz.underlying27 Tryz.underlying5 Tryz.underlying9 HR1.out
 go_enter Tryz.func101,Tryz.ntmps101
 go_wp2
 go_ret
 exact ⟨e1_,dw_⟩
def spec_GetCommit.j0:Nat->List Int->Int->Int->Int->Bool->Option (Int × ByteArray × List ByteArray × Int × Bool)
 | 0,_,_,_,_,_=>none
 | k+1,x0,x1,x8,x9,x39=>if x39=true then (some (0,(⟨#[]⟩:ByteArray),(([]:List ByteArray)),x1,false)) else (if 0≤x9 then (if x9≤(wrap64 (x9+x8)) then (if (wrap64 (x9+x8))≤(x0.length:Int) then ((spec_GetNum.f k ((x0.take ((wrap64 (x9+x8)):Int).toNat).drop (x9:Int).toNat) 0).bind fun bt9=>((spec_GetText.f k ((x0.take ((wrap64 (x9+x8)):Int).toNat).drop (x9:Int).toNat) bt9.2.1).bind fun bt12=>((spec_GetTexts.f k ((x0.take ((wrap64 (x9+x8)):Int).toNat).drop (x9:Int).toNat) bt12.2.1).bind fun bt15=>(if bt9.2.2=true then (if bt12.2.2=true then (if bt15.2.2=true then (if bt15.2.1=(((x0.take ((wrap64 (x9+x8)):Int).toNat).drop (x9:Int).toNat).length:Int) then ((spec_HeadOk.f bt9.1 bt12.1).bind fun t21=>(if t21=true then (if (bt15.1.length:Int)=0 then (some (0,(⟨#[]⟩:ByteArray),(([]:List ByteArray)),x1,false)) else (if 0≤(wrap64 (x9+x8)) then (if (wrap64 (x9+x8))≤(wrap64 ((wrap64 (x9+x8)) + 4)) then (if (wrap64 ((wrap64 (x9+x8)) + 4))≤(x0.length:Int) then ((spec_Digest.f k ((x0.take ((wrap64 (x9+x8)):Int).toNat).drop (x9:Int).toNat)).bind fun t26=>(if 0≤4 then (if 4≤(t26.size:Int) then (if (strOfNums ((x0.take ((wrap64 ((wrap64 (x9+x8)) + 4)):Int).toNat).drop ((wrap64 (x9+x8)):Int).toNat)).toList=(t26.extract 0 4).toList then (some (bt9.1,bt12.1,bt15.1,wrap64 ((wrap64 (x9+x8)) + 4),true)) else (some (0,(⟨#[]⟩:ByteArray),(([]:List ByteArray)),x1,false))) else (none)) else (none))) else (none)) else (none)) else (none))) else (some (0,(⟨#[]⟩:ByteArray),(([]:List ByteArray)),x1,false)))) else (some (0,(⟨#[]⟩:ByteArray),(([]:List ByteArray)),x1,false))) else (some (0,(⟨#[]⟩:ByteArray),(([]:List ByteArray)),x1,false))) else (some (0,(⟨#[]⟩:ByteArray),(([]:List ByteArray)),x1,false))) else (some (0,(⟨#[]⟩:ByteArray),(([]:List ByteArray)),x1,false)))))) else (none)) else (none)) else (none))
def spec_GetCommit.f (k:Nat) (l0:List Int) (a1:Int):Option (Int × ByteArray × List ByteArray × Int × Bool):=(spec_GetNum.f k l0 a1).bind fun bt2=>(if bt2.2.2=true then (spec_GetCommit.j0 k l0 a1 bt2.1 bt2.2.1 (decide (bt2.1 > (wrap64 ((wrap64 ((l0.length:Int) - bt2.2.1)) - 4))))) else (spec_GetCommit.j0 k l0 a1 bt2.1 bt2.2.1 true))
def spec_GetCommit.T9:Bool × List (List Nat × List Nat):=(true,[([],[]),([0],[0]),([1],[1]),([2],[2]),([3,2],[2,3]),([2,4],[2,4]),([5,2],[5]),([6],[6]),([7,6],[6,7]),([6,8],[6,8]),([9,6],[9]),([10],[10]),([10],[10]),([12,10],[10,12]),([11,13,10],[10,11,13]),([10,14],[10,14]),([15,10],[15]),([16],[16]),([17,16,16],[16,17]),([18,16],[16,18]),([16,19],[16,19]),([20,18],[20]),([21],[21]),([22,21],[21,22]),([23,21],[21,23]),([21,24],[21,24]),([25,21],[25]),([26],[26]),([26],[26]),([26],[26]),([28,29,26],[26,28,29]),([26],[26]),([26],[26]),([31,32,26],[26,31,32]),([33,26],[26,33]),([27,30,34,26],[26,27,30,34]),([35,26],[26,35]),([26],[26]),([37,26,26],[26,37]),([38,26],[26,38]),([36,39,26],[26,36,39]),([26,40],[26,40])])
def spec_GetCommit.B9:List Nat:=[0,1,3,7,15,31,63,127,255,511,1023,2047,2047,6143,16383,32767,65535,131071,262143,524287,1048575,2097151,4194303,8388607,16777215,33554431,67108863,134217727,134217727,134217727,939524095,134217727,134217727,6576668671,15166603263,34359738367,68719476735,134217727,137573171199,412451078143,1099511627775,2199023255551]
theorem spec_GetCommit.tab9:rtab .any (opsOf Tryz.f127 9)=spec_GetCommit.T9:=by kernel_rfl
theorem spec_GetCommit.bits9:waitsOk spec_GetCommit.T9.2 spec_GetCommit.B9=true:=by kernel_rfl
def lb (m:Nat):Array Bool:=((List.range 42).map fun i=>Nat.testBit m i).toArray
theorem sT {α:Type} {l:List α} {i:Nat} {a:α}:l.toArray.setIfInBounds i a=(l.set i a).toArray:=by simp
theorem sZ {α:Type} {x:α} {l:List α} {a:α}:(x :: l).set 0 a=a :: l:=rfl
theorem sS {α:Type} {x:α} {l:List α} {i:Nat} {a:α}:(x :: l).set (i+1) a=x :: l.set i a:=rfl
theorem spec_GetCommit.calls (k:Nat) (A0:Option Addr) (c0:Nat) (l0:List Int) (a1:Int) (r1:Int) (r2:ByteArray) (r3:List ByteArray) (r4:Int) (r5:Bool) (w:World) (hr0:Kd.C (Kd.int .u8) w A0 l0.length l0) (hc0:l0.length≤c0) (h:spec_GetCommit.f k l0 a1=some (r1,r2,r3,r4,r5)) :
  Calls Tryz.prog 127 #[.slice A0 l0.length c0,.int .i64 a1] w fun e w'=>∃ v2_:Value,e = .returned (.tuple #[.agg #[.int .i64 r1,.string r2],v2_,.int .i64 r4,.bool r5])∧Kd.R Kd.string 9 w' w.heap.size (fun _=>True) v2_ r3∧Below w.heap.size w w':=by
 have hu37:=Tryz.underlying37
 have HR0:=am_ hr0
 have HC0:=am_ hc0
 clear hr0 hc0
 have HB:=h0_ w
 have H:((spec_GetNum.f k l0 a1).bind fun bt2=>(if bt2.2.2=true then (spec_GetCommit.j0 k l0 a1 bt2.1 bt2.2.1 (decide (bt2.1 > (wrap64 ((wrap64 ((l0.length:Int) - bt2.2.1)) - 4))))) else (spec_GetCommit.j0 k l0 a1 bt2.1 bt2.2.1 true)))=some (r1,r2,r3,r4,r5):=h
 clear h
 replace H:=bi_ H;obtain ⟨⟨t602,t3,t4⟩,A3,H⟩:=H
 dsimp only at H
 have HC4:=am_ H
 clear H
 go_enter Tryz.func127,Tryz.ntmps127
 go_upto_region 2 with (first|((with_reducible refine gd_ 4 ?_);(try (refine gate_guard (by rfl) ?_;dsimp only));refine x37_ 4 (hx_ HB ?_);clear HB;intro gb1 w5 BK1 GW1 HB;have GE1:=GW1)|((with_reducible refine gq_ 147 25 ?_);refine gc_ 25 Tryz.func147 (spec_GetNum.calls k _ _ l0 a1 t602 t3 t4 _ (cb_ HR0 HB) HC0.out A3.out) ?_;rintro e w' ⟨rfl,⟨nd,rfl⟩⟩;refine ⟨_,rfl,?_⟩))
 (try simp only [Act.put,List.setIfInBounds_toArray,List.set_cons_zero,List.set_cons_succ])
 go_cut [39] (fun v39 wc=>∃ (kq:Nat) (x39_3:Bool),v39 = .bool x39_3∧Aside0 (spec_GetCommit.j0 kq l0 a1 t602 t3 x39_3=some (r1,r2,r3,r4,r5))∧Aside0 (kq≤k)∧Aside0 (wc.heap[gb1]?=some (.cells #[.int .i64 0,.string (⟨#[]⟩:ByteArray)] 37 (0,0)))∧Aside0 (Below w.heap.size w wc))
 case first =>
  have H:=HC4.out
  clear HC4
  replace H:=itb_ H;obtain ⟨rfl,H⟩|⟨rfl,H⟩:=H
  ·have H':=am_ H
   clear H
   go_wp2
   go_meet
   case rel => exact ⟨_,(decide (t602 > (wrap64 ((wrap64 ((l0.length:Int) - t3)) - 4)))),e1_,H',⟨le_⟩,⟨kb_ BK1.out⟩,⟨bw_ HB⟩⟩
  ·have H':=am_ H
   clear H
   go_wp2
   go_meet
   case rel => exact ⟨_,(true),e1_,H',⟨le_⟩,⟨kb_ BK1.out⟩,⟨bw_ HB⟩⟩
 case rest =>
  clear HC4
  obtain ⟨kq,x39_3,rfl,HA,HJ3,BK1,HB⟩:=hcut
  cases kq with
  | zero=>exact absurd HA.out (by simp [spec_GetCommit.j0])
  | succ kj3 =>
   have H:=HA.out
   clear HA
   simp only [spec_GetCommit.j0] at H
   replace H:=itb_ H;obtain ⟨rfl,H⟩|⟨rfl,H⟩:=H
   ·obtain ⟨y605,hy5⟩:∃ y_:List ByteArray,y_=(([]:List ByteArray)):=⟨_,rfl⟩
    replace H:(some (0,(⟨#[]⟩:ByteArray),y605,a1,false))=some (r1,r2,r3,r4,r5):=yh_ hy5 H
    have Ny5:=am_ hy5
    clear hy5
    replace H:=so5_ H;obtain ⟨rfl,rfl,rfl,rfl,rfl⟩:=H
    go_wp2_with (first|((with_reducible refine gd_ 41 ?_);(try (refine gate_guard (by rfl) ?_;dsimp only));refine rl_ Kd.string 9 41 ([]:List ByteArray) [] ?_;intro v6 w8 ho9 hb hg_ hnew_;clear hg_ hnew_;(first|rw [← Ny5.out] at ho9|(simp only [Int.reduceToNat] at ho9;rw [← Ny5.out] at ho9));have HO7:=rlo_ ho9 HB;replace BK1:=kl_ BK1 hb;replace HB:=ss_ HB hb;clear hb ho9;have hz10:=cz2_ BK1))
    refine bodyPost_ret (results_list (rs:=[.cell 4 37,.tmp 5,.tmp 6,.tmp 7]) rfl (by simp) (.cell gb1 37 #[.int .i64 0,.string (⟨#[]⟩:ByteArray)] (0,0) _ rfl (by exact kq_ BK1) Tryz.underlying37 rfl (by kernel_rfl) (.tmp (.tmp (.tmp .nil))))) rfl ?_
    exact ⟨_,e2_,kfm_ HO7 BK1,bw_ HB⟩
   ·replace H := ip_ H;obtain ⟨c11,H⟩:=H
    have c11b0:=eq_true c11
    have c11b1:=decide_eq_true c11
    clear c11
    replace H:=ip_ H;obtain ⟨c12,H⟩:=H
    have c12b0:=eq_true c12
    have c12b1:=decide_eq_true c12
    replace H:=ip_ H;obtain ⟨c13,H⟩:=H
    have c13b0:=eq_true c13
    have c13b1:=decide_eq_true c13
    replace H:=bi_ H;obtain ⟨⟨t9,t10,t11⟩,A14,H⟩:=H
    dsimp only at H
    replace H:=bi_ H;obtain ⟨⟨t12,t13,t14⟩,A15,H⟩:=H
    dsimp only at H
    replace H:=bi_ H;obtain ⟨⟨t15,t16,t17⟩,A16,H⟩:=H
    dsimp only at H
    obtain ⟨i0116,hi0116,_,hsz116,_⟩:=info_parts info5
    obtain ⟨A116,hcut116,hA116,hC116⟩:=print_mid_of (P:=Tryz.prog) (Value.int .u8) 0 27 5 .i64 .i64 Tryz.underlying27 hi0116 hsz116 A0 c0 l0 t3 (wrap64 (t3+t602)) (od_) (by first|omega|exact od_) (od_) HC0.out
    have HR8:=am_ (Kd.C_of_reads (h1:=fun _=>rfl) (hA116 _ (Kd.reads_of_C HR0.out)))
    have HC8:=am_ hC116
    clear hA116 hC116 hi0116 hsz116
    try go_wp2_with (first|((with_reducible refine gk_ 147 ?_);refine gl_ 51 Tryz.func147 #[.slice A116 ((l0.take ((wrap64 (t3+t602)):Int).toNat).drop (t3:Int).toNat).length (c0 - t3.toNat),.int .i64 0] ?_ (hargs:=(by (try simp only [List.map_toArray,List.map_cons,List.map_nil]);first|done|(rw [show ((l0.take ((wrap64 (t3+t602)):Int).toNat).drop (t3:Int).toNat).length=((wrap64 (t3+t602)).toNat - t3.toNat) from (by rw [List.length_drop,List.length_take];have h_:((wrap64 (t3+t602)):Int)≤(l0.length:Int):=od_;omega)] <;> rfl)|rfl|(simp only [List.length_drop,List.length_take];rfl)));(with_reducible refine (spec_GetNum.calls kj3 _ _ ((l0.take ((wrap64 (t3+t602)):Int).toNat).drop (t3:Int).toNat) 0 t9 t10 t11 _ ?side1 ?side2 A14.out).mono ?_);(case side1=>exact cb_ HR8 HB);(case side2=>exact HC8.out);rintro e w' ⟨rfl,⟨nd,rfl⟩⟩;refine ⟨_,rfl,?_⟩;(try (rw [drewN_self wc];generalize hq_:World.drewN wc _=wc;have n0_:Aside0 (wc.heap[gb1]?=some (.cells #[.int .i64 0,.string (⟨#[]⟩:ByteArray)] 37 (0,0))):=⟨by rw [← hq_];exact (kb_ BK1.out)⟩;have n1_:Aside0 (Below w.heap.size w wc):=⟨by rw [← hq_];exact (bw_ HB)⟩;clear BK1 HB hq_;have BK1:=n0_;have HB:=n1_;clear n0_ n1_)))|((with_reducible refine gk_ 148 ?_);refine gl_ 58 Tryz.func148 #[.slice A116 ((l0.take ((wrap64 (t3+t602)):Int).toNat).drop (t3:Int).toNat).length (c0 - t3.toNat),.int .i64 t10] ?_ (hargs:=(by (try simp only [List.map_toArray,List.map_cons,List.map_nil]);first|done|(rw [show ((l0.take ((wrap64 (t3+t602)):Int).toNat).drop (t3:Int).toNat).length=((wrap64 (t3+t602)).toNat - t3.toNat) from (by rw [List.length_drop,List.length_take];have h_:((wrap64 (t3+t602)):Int)≤(l0.length:Int):=od_;omega)] <;> rfl)|rfl|(simp only [List.length_drop,List.length_take];rfl)));(with_reducible refine (spec_GetText.calls kj3 _ _ ((l0.take ((wrap64 (t3+t602)):Int).toNat).drop (t3:Int).toNat) t10 t12 t13 t14 _ ?side1 ?side2 A15.out).mono ?_);(case side1=>exact cb_ HR8 HB);(case side2=>exact HC8.out);rintro e w' ⟨rfl,⟨nd,rfl⟩⟩;refine ⟨_,rfl,?_⟩;(try (rw [drewN_self wc];generalize hq_:World.drewN wc _=wc;have n0_:Aside0 (wc.heap[gb1]?=some (.cells #[.int .i64 0,.string (⟨#[]⟩:ByteArray)] 37 (0,0))):=⟨by rw [← hq_];exact (kb_ BK1.out)⟩;have n1_:Aside0 (Below w.heap.size w wc):=⟨by rw [← hq_];exact (bw_ HB)⟩;clear BK1 HB hq_;have BK1:=n0_;have HB:=n1_;clear n0_ n1_)))|((with_reducible refine gk_ 149 ?_);refine gl_ 65 Tryz.func149 #[.slice A116 ((l0.take ((wrap64 (t3+t602)):Int).toNat).drop (t3:Int).toNat).length (c0 - t3.toNat),.int .i64 t13] ?_ (hargs:=(by (try simp only [List.map_toArray,List.map_cons,List.map_nil]);first|done|(rw [show ((l0.take ((wrap64 (t3+t602)):Int).toNat).drop (t3:Int).toNat).length=((wrap64 (t3+t602)).toNat - t3.toNat) from (by rw [List.length_drop,List.length_take];have h_:((wrap64 (t3+t602)):Int)≤(l0.length:Int):=od_;omega)] <;> rfl)|rfl|(simp only [List.length_drop,List.length_take];rfl)));(with_reducible refine (spec_GetTexts.calls kj3 _ _ ((l0.take ((wrap64 (t3+t602)):Int).toNat).drop (t3:Int).toNat) t13 t15 t16 t17 _ ?side1 ?side2 A16.out).mono ?_);(case side1=>exact cb_ HR8 HB);(case side2=>exact HC8.out);rintro e w117 ⟨v18,rfl,ho0,hb⟩;refine ⟨_,rfl,?_⟩;have HO19:=rlo_ ho0 HB;replace BK1:=kl_ BK1 hb;replace HB:=ss_ HB hb;clear hb ho0)|((with_reducible refine gd_ 21 ?_);(try (refine gate_guard (by rfl) ?_;dsimp only));refine x37_ 21 ?_;intro gb20 hg w118 hbox hb;replace HO19:=rb_ HO19 hb;have BK20:=am_ hbox;have GW20:=gg_ hg HB;have GE20:=GW20;replace HB:=ss_ HB hb;have NB1_20:=nla_ hg BK1;have NB20_1:=nga_ hg BK1;replace BK1:=kl_ BK1 hb;clear hb hbox hg;have hnb119:=NB20_1.out;have hnc119:=NB1_20.out;have hz120:=cz2_ BK20))
    obtain ⟨w121,hw_⟩:∃ w_:World,w_=((w118.setCell ⟨gb20,0,none⟩ (.int .i64 t9)).setCell ⟨gb20,1,none⟩ (.string t12)):=⟨_,rfl⟩
    replace HO19:Aside0 (Kd.R Kd.string 9 w121 w.heap.size (fun _=>True) v18 t15):=⟨by rw [hw_];exact kfm_ HO19 BK20⟩
    replace BK1:Aside0 (w121.heap[gb1]?=some (.cells #[.int .i64 0,.string (⟨#[]⟩:ByteArray)] 37 (0,0))):=⟨by rw [hw_];exact kq_ BK1⟩
    replace BK20:Aside0 (w121.heap[gb20]?=some (.cells #[.int .i64 t9,.string t12] 37 (0,0))):=⟨by rw [hw_];exact kq_ BK20⟩
    replace HB:Aside0 (Below w.heap.size w w121):=⟨by rw [hw_];exact bw_ HB⟩
    rw [← hw_]
    clear hw_
    replace HO19:=am_ (Kd.R_drew HO19.out)
    replace BK1:=bd_ BK1
    replace BK20:=bd_ BK20
    replace HB:=hd_ HB
    obtain ⟨Ao52,co52,eo52⟩:=Kd.R_slice HO19.out
    subst eo52
    have hlenq:((l0.take ((wrap64 (t3+t602)):Int).toNat).drop (t3:Int).toNat).length=((wrap64 (t3+t602)).toNat - t3.toNat):=(by rw [List.length_drop,List.length_take];have h_:((wrap64 (t3+t602)):Int)≤(l0.length:Int):=od_;omega)
    refine sw_ 42 (fun w'=>w'.cell? ⟨gb20,0,none⟩=some (.int .i64 t9)∧w'.cell? ⟨gb20,1,none⟩=some (.string t12)∧Kd.C (Kd.int .u8) w' A0 l0.length l0) [] spec_GetCommit.tab9 spec_GetCommit.bits9 ⟨bc0_ BK20.out,bc1_ BK20.out,Kd.C_below HR0.out HB.out⟩ (fun hHeld HT_ HW_=>?_)
    generalize w121.drew=w122 at HO19 BK1 BK20 HB hHeld ⊢
    refine join_ (σ:=List Value) 0 (lz_ 42 4398046511103) (fun s=>[(72,s.getD 0 undef),(73,s.getD 1 undef),(74,s.getD 2 undef),(75,s.getD 3 undef),(76,s.getD 4 undef),(77,s.getD 5 undef),(78,s.getD 6 undef),(79,s.getD 7 undef),(80,s.getD 8 undef),(81,s.getD 9 undef),(82,s.getD 10 undef),(83,s.getD 11 undef),(84,s.getD 12 undef),(85,s.getD 13 undef),(86,s.getD 14 undef),(87,s.getD 15 undef),(88,s.getD 16 undef),(89,s.getD 17 undef),(90,s.getD 18 undef),(91,s.getD 19 undef),(92,s.getD 20 undef),(93,s.getD 21 undef),(94,s.getD 22 undef),(95,s.getD 23 undef),(96,s.getD 24 undef),(97,s.getD 25 undef),(98,s.getD 26 undef),(99,s.getD 27 undef),(100,s.getD 28 undef),(101,s.getD 29 undef),(102,s.getD 30 undef),(103,s.getD 31 undef),(104,s.getD 32 undef),(105,s.getD 33 undef),(106,s.getD 34 undef),(107,s.getD 35 undef),(108,s.getD 36 undef),(109,s.getD 37 undef),(110,s.getD 38 undef),(111,s.getD 39 undef),(112,s.getD 40 undef),(113,.bool true)]) (fun (s:List Value) (w':World)=>some ((0:Int),(⟨#[]⟩:ByteArray),([]:List ByteArray),a1,false)=some (r1,r2,r3,r4,r5)∧Kd.R Kd.string 9 w' w.heap.size (fun _=>True) (.slice Ao52 t15.length co52) t15∧w'.heap[gb1]?=some (.cells #[.int .i64 0,.string (⟨#[]⟩:ByteArray)] 37 (0,0))∧w'.heap[gb20]?=some (.cells #[.int .i64 t9,.string t12] 37 (0,0))∧Below w.heap.size w w') ?_ ?_
    rotate_left
    ·intro hJ41
     refine join_ (σ:=List Value) 16 (lz_ 42 67108863) (fun s=>[(72,s.getD 0 undef),(73,s.getD 1 undef),(74,s.getD 2 undef),(75,s.getD 3 undef),(76,s.getD 4 undef),(77,s.getD 5 undef),(78,s.getD 6 undef),(79,s.getD 7 undef),(80,s.getD 8 undef),(81,s.getD 9 undef),(82,s.getD 10 undef),(83,s.getD 11 undef),(84,s.getD 12 undef),(85,s.getD 13 undef),(86,s.getD 14 undef),(87,s.getD 15 undef),(88,s.getD 16 undef),(89,s.getD 17 undef),(90,s.getD 18 undef),(91,s.getD 19 undef),(92,s.getD 20 undef),(93,s.getD 21 undef),(94,s.getD 22 undef),(95,s.getD 23 undef),(96,s.getD 24 undef),(97,.bool true)]) (fun (s:List Value) (w':World)=>some ((0:Int),(⟨#[]⟩:ByteArray),([]:List ByteArray),a1,false)=some (r1,r2,r3,r4,r5)∧Kd.R Kd.string 9 w' w.heap.size (fun _=>True) (.slice Ao52 t15.length co52) t15∧w'.heap[gb1]?=some (.cells #[.int .i64 0,.string (⟨#[]⟩:ByteArray)] 37 (0,0))∧w'.heap[gb20]?=some (.cells #[.int .i64 t9,.string t12] 37 (0,0))∧Below w.heap.size w w') ?_ ?_
     rotate_left
     ·intro hJ25
      refine join_ (σ:=List Value) 21 (lz_ 42 2097151) (fun s=>[(72,s.getD 0 undef),(73,s.getD 1 undef),(74,s.getD 2 undef),(75,s.getD 3 undef),(76,s.getD 4 undef),(77,s.getD 5 undef),(78,s.getD 6 undef),(79,s.getD 7 undef),(80,s.getD 8 undef),(81,s.getD 9 undef),(82,s.getD 10 undef),(83,s.getD 11 undef),(84,s.getD 12 undef),(85,s.getD 13 undef),(86,s.getD 14 undef),(87,s.getD 15 undef),(88,s.getD 16 undef),(89,s.getD 17 undef),(90,s.getD 18 undef),(91,s.getD 19 undef),(92,.bool true)]) (fun (s:List Value) (w':World)=>some ((0:Int),(⟨#[]⟩:ByteArray),([]:List ByteArray),a1,false)=some (r1,r2,r3,r4,r5)∧Kd.R Kd.string 9 w' w.heap.size (fun _=>True) (.slice Ao52 t15.length co52) t15∧w'.heap[gb1]?=some (.cells #[.int .i64 0,.string (⟨#[]⟩:ByteArray)] 37 (0,0))∧w'.heap[gb20]?=some (.cells #[.int .i64 t9,.string t12] 37 (0,0))∧Below w.heap.size w w') ?_ ?_
      rotate_left
      ·intro hJ20
       refine join_ (σ:=List Value) 26 (lz_ 42 65535) (fun s=>[(72,s.getD 0 undef),(73,s.getD 1 undef),(74,s.getD 2 undef),(75,s.getD 3 undef),(76,s.getD 4 undef),(77,s.getD 5 undef),(78,s.getD 6 undef),(79,s.getD 7 undef),(80,s.getD 8 undef),(81,s.getD 9 undef),(82,s.getD 10 undef),(83,s.getD 11 undef),(84,s.getD 12 undef),(85,s.getD 13 undef),(86,s.getD 14 undef),(87,.bool true)]) (fun (s:List Value) (w':World)=>some ((0:Int),(⟨#[]⟩:ByteArray),([]:List ByteArray),a1,false)=some (r1,r2,r3,r4,r5)∧Kd.R Kd.string 9 w' w.heap.size (fun _=>True) (.slice Ao52 t15.length co52) t15∧w'.heap[gb1]?=some (.cells #[.int .i64 0,.string (⟨#[]⟩:ByteArray)] 37 (0,0))∧w'.heap[gb20]?=some (.cells #[.int .i64 t9,.string t12] 37 (0,0))∧Below w.heap.size w w') ?_ ?_
       rotate_left
       ·intro hJ15
        refine join_ (σ:=List Value) 32 (lz_ 42 1023) (fun s=>[(72,s.getD 0 undef),(73,s.getD 1 undef),(74,s.getD 2 undef),(75,s.getD 3 undef),(76,s.getD 4 undef),(77,s.getD 5 undef),(78,s.getD 6 undef),(79,s.getD 7 undef),(80,s.getD 8 undef),(81,.bool true)]) (fun (s:List Value) (w':World)=>some ((0:Int),(⟨#[]⟩:ByteArray),([]:List ByteArray),a1,false)=some (r1,r2,r3,r4,r5)∧Kd.R Kd.string 9 w' w.heap.size (fun _=>True) (.slice Ao52 t15.length co52) t15∧w'.heap[gb1]?=some (.cells #[.int .i64 0,.string (⟨#[]⟩:ByteArray)] 37 (0,0))∧w'.heap[gb20]?=some (.cells #[.int .i64 t9,.string t12] 37 (0,0))∧Below w.heap.size w w') ?_ ?_
        rotate_left
        ·intro hJ9
         refine join_ (σ:=List Value) 36 (lz_ 42 63) (fun s=>[(72,s.getD 0 undef),(73,s.getD 1 undef),(74,s.getD 2 undef),(75,s.getD 3 undef),(76,s.getD 4 undef),(77,.bool true)]) (fun (s:List Value) (w':World)=>some ((0:Int),(⟨#[]⟩:ByteArray),([]:List ByteArray),a1,false)=some (r1,r2,r3,r4,r5)∧Kd.R Kd.string 9 w' w.heap.size (fun _=>True) (.slice Ao52 t15.length co52) t15∧w'.heap[gb1]?=some (.cells #[.int .i64 0,.string (⟨#[]⟩:ByteArray)] 37 (0,0))∧w'.heap[gb20]?=some (.cells #[.int .i64 t9,.string t12] 37 (0,0))∧Below w.heap.size w w') ?_ ?_
         rotate_left
         ·intro hJ5
          cases t11 with
          | false =>
           rw [if_neg (by decide)] at H
           refine pts_ 0 72 1 ?_
           refine pts_ 1 73 3 ?_
           refine pts_ 2 74 7 ?_
           refine uts_ 3 75 15 ?_
           refine uts_ 4 76 31 ?_
           refine pts_ 5 77 63 ?_
           exact njs_ (hJ5 [_,_,_,_,_] _ ⟨H,(kr_ HO19.out),(kb_ BK1.out),(kb_ BK20.out),(bw_ HB)⟩)
          | true =>
           rw [if_pos rfl] at H
           refine pts_ 0 72 1 ?_
           refine pts_ 1 73 3 ?_
           refine pts_ 2 74 7 ?_
           cases t14 with
           | false =>
            rw [if_neg (by decide)] at H
            refine pts_ 3 75 15 ?_
            refine pts_ 4 76 31 ?_
            refine pts_ 5 77 63 ?_
            exact njs_ (hJ5 [_,_,_,_,_] _ ⟨H,(kr_ HO19.out),(kb_ BK1.out),(kb_ BK20.out),(bw_ HB)⟩)
           | true =>
            rw [if_pos rfl] at H
            refine pts_ 3 75 15 ?_
            refine pts_ 4 76 31 ?_
            refine pts_ 5 77 63 ?_
            cases t17 with
            | false =>
             rw [if_neg (by decide)] at H
             refine pts_ 6 78 127 ?_
             refine pts_ 7 79 255 ?_
             refine pts_ 8 80 511 ?_
             refine pts_ 9 81 1023 ?_
             exact njs_ (hJ9 [_,_,_,_,_,_,_,_,_] _ ⟨H,(kr_ HO19.out),(kb_ BK1.out),(kb_ BK20.out),(bw_ HB)⟩)
            | true =>
             rw [if_pos rfl] at H
             refine pts_ 6 78 127 ?_
             refine pts_ 7 79 255 ?_
             refine pts_ 8 80 511 ?_
             refine pts_ 9 81 1023 ?_
             refine pts_ 10 82 2047 ?_
             replace H:=it_ H;obtain ⟨c20,H⟩|⟨c20,H⟩:=H
             ·have c20b0:(t16 == (((l0.take ((wrap64 (t3+t602)):Int).toNat).drop (t3:Int).toNat).length:Int))=true:=beq_iff_eq.mpr c20
              have c20b1:(t16 != (((l0.take ((wrap64 (t3+t602)):Int).toNat).drop (t3:Int).toNat).length:Int))=false:=bne_eq_false_iff_eq.mpr c20
              have c20n0:=c20b0
              rw [hlenq] at c20n0
              have c20n1:=c20b1
              rw [hlenq] at c20n1
              refine pts_ 11 83 4095 ?_
              refine pts_ 12 84 8191 ?_
              refine pts_ 13 85 16383 ?_
              refine pts_ 14 86 32767 ?_
              refine pts_ 15 87 65535 ?_
              refine pts_ 16 88 131071 ?_
              replace H:=bi_ H;obtain ⟨t21,A21,H⟩:=H
              refine tts_ 17 89 262143 ?_
              refine oz_ 18 90 42 524287 (fun K hK=>?_)
              refine goes_ Tryz.func74 (by kernel_rfl) rfl #[.agg #[.int .i64 t9,.string t12]] (by rfl) rfl rfl (by (try simp only [List.map_toArray,List.map_cons,List.map_nil]);first|done|(rw [hlenq] <;> rfl)|rfl) ?_
              with_reducible refine (spec_HeadOk.calls t9 t12 t21 _ A21.out).mono ?_
              rintro e w51 ⟨rfl,hb⟩
              refine ⟨_,rfl,?_⟩
              have n0_:=rb_ HO19 hb
              have n1_:=am_ (blk_below BK1.out hb)
              have n2_:=am_ (blk_below BK20.out hb)
              have n3_:=am_ (below_step HB.out hb)
              clear HO19 BK1 BK20 HB
              have HO19:=n0_
              have BK1:=n1_
              have BK20:=n2_
              have HB:=n3_
              clear n0_ n1_ n2_ n3_
              clear hb
              refine hK.out _ _ ⟨bc0_ BK20.out,bc1_ BK20.out,Kd.C_below HR0.out HB.out⟩ (fun hHeld=>?_)
              clear hK K
              refine nos_ 90 ?_
              cases t21 with
              | false =>
               rw [if_neg (by decide)] at H
               refine pts_ 19 91 1048575 ?_
               refine pts_ 20 92 2097151 ?_
               exact njs_ (hJ20 [_,_,_,_,_,_,_,_,_,_,_,_,_,_,_,_,_,_,_,_] _ ⟨H,(kr_ HO19.out),(kb_ BK1.out),(kb_ BK20.out),(bw_ HB)⟩)
              | true =>
               rw [if_pos rfl] at H
               refine pts_ 19 91 1048575 ?_
               refine pts_ 20 92 2097151 ?_
               refine pts_ 21 93 4194303 ?_
               replace H:=it_ H;obtain ⟨c23,H⟩|⟨c23,H⟩:=H
               ·have c23b0:((t15.length:Int) == 0)=true:=beq_iff_eq.mpr c23
                have c23b1:((t15.length:Int) != 0)=false:=bne_eq_false_iff_eq.mpr c23
                have c23b2:t15=[]:=List.eq_nil_of_length_eq_zero (by omega)
                refine pts_ 22 94 8388607 ?_
                refine pts_ 23 95 16777215 ?_
                refine pts_ 24 96 33554431 ?_
                refine pts_ 25 97 67108863 ?_
                exact njs_ (hJ25 [_,_,_,_,_,_,_,_,_,_,_,_,_,_,_,_,_,_,_,_,_,_,_,_,_] _ ⟨H,(kr_ HO19.out),(kb_ BK1.out),(kb_ BK20.out),(bw_ HB)⟩)
               ·have c23b0:((t15.length:Int) == 0)=false:=beq_eq_false_iff_ne.mpr c23
                have c23b1:((t15.length:Int) != 0)=true:=bne_iff_ne.mpr c23
                have c23b2:¬ (t15=[]):=fun h_=>c23 (by rw [h_];rfl)
                refine pts_ 22 94 8388607 ?_
                refine pts_ 23 95 16777215 ?_
                refine pts_ 24 96 33554431 ?_
                refine pts_ 25 97 67108863 ?_
                refine pts_ 26 98 134217727 ?_
                replace H:=ip_ H;obtain ⟨c37,H⟩:=H
                have c37b0:=eq_true c37
                have c37b1:=decide_eq_true c37
                replace H:=ip_ H;obtain ⟨c38,H⟩:=H
                have c38b0:=eq_true c38
                have c38b1:=decide_eq_true c38
                replace H:=ip_ H;obtain ⟨c39,H⟩:=H
                have c39b0:=eq_true c39
                have c39b1:=decide_eq_true c39
                obtain ⟨t26,A400,H⟩:=Option.bind_eq_some_iff.mp H
                have A40:=am_ A400
                clear A400
                rw [if_pos (by decide)] at H
                replace H:=ip_ H;obtain ⟨c42,H⟩:=H
                have c41b0:=eq_true (show (0:Int)≤4 by decide)
                have c41b1:decide ((0:Int)≤4)=true:=by decide
                have c42b0:=eq_true c42
                have c42b1:=decide_eq_true c42
                obtain ⟨i053,hi053,_,hsz53,_⟩:=info_parts info5
                obtain ⟨A53,hcut53,hA53,hC53⟩:=print_mid_of (P:=Tryz.prog) (Value.int .u8) 0 27 5 .i64 .i64 Tryz.underlying27 hi053 hsz53 A0 c0 l0 (wrap64 (t3+t602)) (wrap64 ((wrap64 (t3+t602)) + 4)) c37 c38 c39 HC0.out
                have hleno:((l0.take ((wrap64 ((wrap64 (t3+t602)) + 4)):Int).toNat).drop ((wrap64 (t3+t602)):Int).toNat).length=((wrap64 ((wrap64 (t3+t602)) + 4)).toNat - (wrap64 (t3+t602)).toNat):=by rw [List.length_drop,List.length_take];omega
                have hcut54:=hcut53
                simp only [hleno] at hcut54
                clear hi053 hsz53 hC53
                refine pts_ 27 99 268435455 ?_
                refine pts_ 28 100 536870911 ?_
                refine pts_ 29 101 1073741823 ?_
                refine pts_ 30 102 2147483647 ?_
                refine pts_ 31 103 4294967295 ?_
                refine pts_ 32 104 8589934591 ?_
                refine pts_ 33 105 17179869183 ?_
                refine pts_ 34 106 34359738367 ?_
                refine pts_ 35 107 68719476735 ?_
                refine take_ (i:=36) (N:=some 108) (v:=?_) (a':=?_) (lz_ 42 137438953471) rfl rfl (take_ofW HT_.out HW_.out (by kernel_rfl)) (fun _ _ _ h=>h) (Or.inl ⟨by rfl,?_⟩) hHeld ?_ ?_
                rotate_left
                ·rintro w' ⟨s0,s1,s2⟩
                 have hcv:=Kd.C_string (P:=Tryz.prog) (A:=A53) (c:=(c0 - (wrap64 (t3+t602)).toNat)) Tryz.underlying27 Tryz.underlying5 Tryz.underlying9 (Kd.C_of_reads (h1:=fun _=>rfl) (hA53 _ (Kd.reads_of_C s2)))
                 have hcw:=hcv
                 rw [hleno] at hcw
                 go_simp
                 with_reducible rfl
                rotate_left
                ·simp only [Act.put,sT,sZ,sS,i64_w,i32_w]
                 rfl
                refine pts_ 37 109 274877906943 ?_
                refine oz_ 38 110 42 549755813887 (fun K hK=>?_)
                refine goes_ Tryz.func119 (by kernel_rfl) rfl #[.slice A116 ((l0.take ((wrap64 (t3+t602)):Int).toNat).drop (t3:Int).toNat).length (c0 - t3.toNat)] (by rfl) rfl rfl (by (try simp only [List.map_toArray,List.map_cons,List.map_nil]);first|done|(rw [hlenq] <;> rfl)|rfl) ?_
                with_reducible refine (spec_Digest.calls kj3 _ _ ((l0.take ((wrap64 (t3+t602)):Int).toNat).drop (t3:Int).toNat) t26 _ ?side1 ?side2 A40.out).mono ?_
                (case side1=>exact cb_ HR8 HB)
                (case side2=>exact HC8.out)
                rintro e w55 ⟨rfl,hb⟩
                refine ⟨_,rfl,?_⟩
                have n0_:=rb_ HO19 hb
                have n1_:=am_ (blk_below BK1.out hb)
                have n2_:=am_ (blk_below BK20.out hb)
                have n3_:=am_ (below_step HB.out hb)
                clear HO19 BK1 BK20 HB
                have HO19:=n0_
                have BK1:=n1_
                have BK20:=n2_
                have HB:=n3_
                clear n0_ n1_ n2_ n3_
                clear hb
                refine hK.out _ _ ⟨bc0_ BK20.out,bc1_ BK20.out,Kd.C_below HR0.out HB.out⟩ (fun hHeld=>?_)
                clear hK K
                refine nos_ 110 ?_
                replace H:=it_ H;obtain ⟨c43,H⟩|⟨c43,H⟩:=H
                ·have c43b0:((strOfNums ((l0.take ((wrap64 ((wrap64 (t3+t602)) + 4)):Int).toNat).drop ((wrap64 (t3+t602)):Int).toNat)).toList == (t26.extract 0 4).toList)=true:=beq_iff_eq.mpr c43
                 have c43b1:((strOfNums ((l0.take ((wrap64 ((wrap64 (t3+t602)) + 4)):Int).toNat).drop ((wrap64 (t3+t602)):Int).toNat)).toList != (t26.extract 0 4).toList)=false:=bne_eq_false_iff_eq.mpr c43
                 clear c43
                 replace H:=so5_ H;obtain ⟨rfl,rfl,rfl,rfl,rfl⟩:=H
                 refine pts_ 39 111 1099511627775 ?_
                 refine pts_ 40 112 2199023255551 ?_
                 refine pts_ 41 113 4398046511103 ?_
                 refine dn_ ?_
                 have hz57:=cz2_ BK20
                 have hz58:=cz2_ BK1
                 try go_wp2
                 refine bodyPost_ret (results_list (rs:=[.cell 4 37,.tmp 5,.tmp 6,.tmp 7]) rfl (by simp) (.cell gb1 37 #[.int .i64 t9,.string t12] (0,0) _ rfl (by exact kq_ BK1) Tryz.underlying37 rfl (by kernel_rfl) (.tmp (.tmp (.tmp .nil))))) rfl ?_
                 exact ⟨_,by first|rfl|(simp [errW_none,errW_some] <;> rfl)|(first|rfl|(simp [errW_none,errW_some] <;> rfl))|(simp [*,errW_none,errW_some] <;> rfl),kfm_ HO19 BK1,bw_ HB⟩
                ·have c43b0:((strOfNums ((l0.take ((wrap64 ((wrap64 (t3+t602)) + 4)):Int).toNat).drop ((wrap64 (t3+t602)):Int).toNat)).toList == (t26.extract 0 4).toList)=false:=beq_eq_false_iff_ne.mpr c43
                 have c43b1:((strOfNums ((l0.take ((wrap64 ((wrap64 (t3+t602)) + 4)):Int).toNat).drop ((wrap64 (t3+t602)):Int).toNat)).toList != (t26.extract 0 4).toList)=true:=bne_iff_ne.mpr c43
                 refine pts_ 39 111 1099511627775 ?_
                 refine pts_ 40 112 2199023255551 ?_
                 refine pts_ 41 113 4398046511103 ?_
                 exact njs_ (hJ41 [_,_,_,_,_,_,_,_,_,_,_,_,_,_,_,_,_,_,_,_,_,_,_,_,_,_,_,_,_,_,_,_,_,_,_,_,_,_,_,_,_] _ ⟨H,(kr_ HO19.out),(kb_ BK1.out),(kb_ BK20.out),(bw_ HB)⟩)
             ·have c20b0:(t16 == (((l0.take ((wrap64 (t3+t602)):Int).toNat).drop (t3:Int).toNat).length:Int))=false:=beq_eq_false_iff_ne.mpr c20
              have c20b1:(t16 != (((l0.take ((wrap64 (t3+t602)):Int).toNat).drop (t3:Int).toNat).length:Int))=true:=bne_iff_ne.mpr c20
              have c20n0:=c20b0
              rw [hlenq] at c20n0
              have c20n1:=c20b1
              rw [hlenq] at c20n1
              refine pts_ 11 83 4095 ?_
              refine pts_ 12 84 8191 ?_
              refine pts_ 13 85 16383 ?_
              refine pts_ 14 86 32767 ?_
              refine pts_ 15 87 65535 ?_
              exact njs_ (hJ15 [_,_,_,_,_,_,_,_,_,_,_,_,_,_,_] _ ⟨H,(kr_ HO19.out),(kb_ BK1.out),(kb_ BK20.out),(bw_ HB)⟩)
         ·rintro s w122 ⟨H,hF0,hF1,hF2,hF3⟩
          have HO19:=am_ hF0
          have BK1:=am_ hF1
          have BK20:=am_ hF2
          have HB:=am_ hF3
          clear hF0 hF1 hF2 hF3
          refine norm_ (a':=?_) ?_ ?_
          rotate_left
          ·simp only [putAll,Act.put,sT,sZ,sS]
           rfl
          refine pts_ 6 78 127 ?_
          refine uts_ 7 79 255 ?_
          refine uts_ 8 80 511 ?_
          refine pts_ 9 81 1023 ?_
          exact njs_ (hJ9 [_,_,_,_,_,_,_,_,_] _ ⟨H,(kr_ HO19.out),(kb_ BK1.out),(kb_ BK20.out),(bw_ HB)⟩)
        ·rintro s w122 ⟨H,hF0,hF1,hF2,hF3⟩
         have HO19:=am_ hF0
         have BK1:=am_ hF1
         have BK20:=am_ hF2
         have HB:=am_ hF3
         clear hF0 hF1 hF2 hF3
         refine norm_ (a':=?_) ?_ ?_
         rotate_left
         ·simp only [putAll,Act.put,sT,sZ,sS]
          rfl
         refine pts_ 10 82 2047 ?_
         refine uts_ 11 83 4095 ?_
         refine uts_ 12 84 8191 ?_
         refine uts_ 13 85 16383 ?_
         refine uts_ 14 86 32767 ?_
         refine pts_ 15 87 65535 ?_
         exact njs_ (hJ15 [_,_,_,_,_,_,_,_,_,_,_,_,_,_,_] _ ⟨H,(kr_ HO19.out),(kb_ BK1.out),(kb_ BK20.out),(bw_ HB)⟩)
       ·rintro s w122 ⟨H,hF0,hF1,hF2,hF3⟩
        have HO19:=am_ hF0
        have BK1:=am_ hF1
        have BK20:=am_ hF2
        have HB:=am_ hF3
        clear hF0 hF1 hF2 hF3
        refine norm_ (a':=?_) ?_ ?_
        rotate_left
        ·simp only [putAll,Act.put,sT,sZ,sS]
         rfl
        refine pts_ 16 88 131071 ?_
        refine uts_ 17 89 262143 ?_
        refine uts_ 18 90 524287 ?_
        refine uts_ 19 91 1048575 ?_
        refine pts_ 20 92 2097151 ?_
        exact njs_ (hJ20 [_,_,_,_,_,_,_,_,_,_,_,_,_,_,_,_,_,_,_,_] _ ⟨H,(kr_ HO19.out),(kb_ BK1.out),(kb_ BK20.out),(bw_ HB)⟩)
      ·rintro s w122 ⟨H,hF0,hF1,hF2,hF3⟩
       have HO19:=am_ hF0
       have BK1:=am_ hF1
       have BK20:=am_ hF2
       have HB:=am_ hF3
       clear hF0 hF1 hF2 hF3
       refine norm_ (a':=?_) ?_ ?_
       rotate_left
       ·simp only [putAll,Act.put,sT,sZ,sS]
        rfl
       refine pts_ 21 93 4194303 ?_
       refine uts_ 22 94 8388607 ?_
       refine uts_ 23 95 16777215 ?_
       refine uts_ 24 96 33554431 ?_
       refine pts_ 25 97 67108863 ?_
       exact njs_ (hJ25 [_,_,_,_,_,_,_,_,_,_,_,_,_,_,_,_,_,_,_,_,_,_,_,_,_] _ ⟨H,(kr_ HO19.out),(kb_ BK1.out),(kb_ BK20.out),(bw_ HB)⟩)
     ·rintro s w122 ⟨H,hF0,hF1,hF2,hF3⟩
      have HO19:=am_ hF0
      have BK1:=am_ hF1
      have BK20:=am_ hF2
      have HB:=am_ hF3
      clear hF0 hF1 hF2 hF3
      refine norm_ (a':=?_) ?_ ?_
      rotate_left
      ·simp only [putAll,Act.put,sT,sZ,sS]
       rfl
      refine pts_ 26 98 134217727 ?_
      refine uts_ 27 99 268435455 ?_
      refine uts_ 28 100 536870911 ?_
      refine uts_ 29 101 1073741823 ?_
      refine uts_ 30 102 2147483647 ?_
      refine uts_ 31 103 4294967295 ?_
      refine uts_ 32 104 8589934591 ?_
      refine uts_ 33 105 17179869183 ?_
      refine uts_ 34 106 34359738367 ?_
      refine uts_ 35 107 68719476735 ?_
      refine uts_ 36 108 137438953471 ?_
      refine uts_ 37 109 274877906943 ?_
      refine uts_ 38 110 549755813887 ?_
      refine uts_ 39 111 1099511627775 ?_
      refine uts_ 40 112 2199023255551 ?_
      refine pts_ 41 113 4398046511103 ?_
      exact njs_ (hJ41 [_,_,_,_,_,_,_,_,_,_,_,_,_,_,_,_,_,_,_,_,_,_,_,_,_,_,_,_,_,_,_,_,_,_,_,_,_,_,_,_,_] _ ⟨H,(kr_ HO19.out),(kb_ BK1.out),(kb_ BK20.out),(bw_ HB)⟩)
    ·rintro s w122 ⟨H,hF0,hF1,hF2,hF3⟩
     have HO19:=am_ hF0
     have BK1:=am_ hF1
     have BK20:=am_ hF2
     have HB:=am_ hF3
     clear hF0 hF1 hF2 hF3
     refine norm_ (a':=?_) ?_ ?_
     rotate_left
     ·simp only [putAll,Act.put,sT,sZ,sS]
      rfl
     obtain ⟨y42,hy42⟩:∃ y_:List ByteArray,y_=([]:List ByteArray):=⟨_,rfl⟩
     rw [← hy42] at H
     have Ny42:=am_ hy42
     clear hy42
     replace H:=so5_ H;obtain ⟨rfl,rfl,rfl,rfl,rfl⟩:=H
     refine dn_ ?_
     try go_wp2_with (first|((with_reducible refine gd_ 115 ?_);(try (refine gate_guard (by rfl) ?_;dsimp only));refine rl_ Kd.string 9 115 ([]:List ByteArray) [] ?_;intro v43 w123 ho124 hb hg_ hnew_;clear hg_ hnew_;(first|rw [← Ny42.out] at ho124|(simp only [Int.reduceToNat] at ho124;rw [← Ny42.out] at ho124));have HO44:=am_ (Kd.R_lower (Kd.R_new' ho124 (lt_ HO19)) (sz_ HB));replace HO19:=re_ HO19 ho124 hb;replace BK1:=kl_ BK1 hb;replace HB:=ss_ HB hb;clear hb ho124;have hz125:=cz2_ BK1))
     refine bodyPost_ret (results_list (rs:=[.cell 4 37,.tmp 5,.tmp 6,.tmp 7]) rfl (by simp) (.cell gb1 37 #[.int .i64 0,.string (⟨#[]⟩:ByteArray)] (0,0) _ rfl (by exact kq_ BK1) Tryz.underlying37 rfl (by kernel_rfl) (.tmp (.tmp (.tmp .nil))))) rfl ?_
     exact ⟨_,e2_,kfm_ HO44 BK1,bw_ HB⟩
def spec_l6Root.f:Nat->List ByteArray->Option (ByteArray)
 | 0,_=>none
 | k+1,l0=>if (l0.length:Int)=0 then ((spec_Digest.f k (([]:List Int))).bind fun t4=>(some t4)) else (if (l0.length:Int)=1 then (if 0 < (l0.length:Int) then ((spec_LeafHash.f k (rdOf ByteArray.empty l0 0)).bind fun t6=>(some t6)) else (none)) else ((spec_l6Half.f k (l0.length:Int)).bind fun t7=>(if 0≤t7 then (if t7≤(l0.length:Int) then ((spec_l6Root.f k (l0.take (t7:Int).toNat)).bind fun t9=>((spec_l6Root.f k (l0.drop (t7:Int).toNat)).bind fun t11=>((spec_NodeHash.f k t9 t11).bind fun t12=>(some t12)))) else (none)) else (none))))
def spec_l6Root.T7:Bool × List (List Nat × List Nat):=(true,[([],[]),([],[]),([0,1],[0,1]),([2],[2]),([],[]),([],[]),([4,5],[4,5]),([6,3],[6]),([3,7,7],[3,7]),([8,8,0,1,2,3,4,5,6,7,8],[8])])
def spec_l6Root.B7:List Nat:=[0,0,3,7,0,0,48,127,255,511]
theorem spec_l6Root.tab7:rtab .any (opsOf Tryz.f138 7)=spec_l6Root.T7:=by kernel_rfl
theorem spec_l6Root.bits7:waitsOk spec_l6Root.T7.2 spec_l6Root.B7=true:=by kernel_rfl
theorem spec_l6Root.calls (k:Nat):∀ (A0:Option Addr) (c0:Nat) (l0:List ByteArray) (r:ByteArray) (w:World) (hr0:Kd.C Kd.string w A0 l0.length l0) (hc0:l0.length≤c0) (h:spec_l6Root.f k l0=some r),
  Calls Tryz.prog 138 #[.slice A0 l0.length c0] w fun e w'=>e = .returned (.string r)∧Below w.heap.size w w':=by
 induction k using Nat.strongRecOn with
 | _ k ih =>
 intro A0 c0 l0 r w hr0 hc0 h
 cases k with
 | zero=>exact absurd h (by simp [spec_l6Root.f])
 | succ k =>
 simp only [spec_l6Root.f] at h
 have HR0:=am_ hr0
 have HC0:=am_ hc0
 clear hr0 hc0
 have HB:=h0_ w
 have H:(if (l0.length:Int)=0 then ((spec_Digest.f k (([]:List Int))).bind fun t4=>(some t4)) else (if (l0.length:Int)=1 then (if 0 < (l0.length:Int) then ((spec_LeafHash.f k (rdOf ByteArray.empty l0 0)).bind fun t6=>(some t6)) else (none)) else ((spec_l6Half.f k (l0.length:Int)).bind fun t7=>(if 0≤t7 then (if t7≤(l0.length:Int) then ((spec_l6Root.f k (l0.take (t7:Int).toNat)).bind fun t9=>((spec_l6Root.f k (l0.drop (t7:Int).toNat)).bind fun t11=>((spec_NodeHash.f k t9 t11).bind fun t12=>(some t12)))) else (none)) else (none)))))=some r:=h
 clear h
 replace H:=it_ H;obtain ⟨c2,H⟩|⟨c2,H⟩:=H
 ·have c2b0:((l0.length:Int) == 0)=true:=beq_iff_eq.mpr c2
  have c2b1:((l0.length:Int) != 0)=false:=bne_eq_false_iff_eq.mpr c2
  clear c2
  obtain ⟨y601,hy1⟩:∃ y_:List Int,y_=(([]:List Int)):=⟨_,rfl⟩
  replace H:((spec_Digest.f k y601).bind fun t4=>(some t4))=some r:=yh_ hy1 H
  have Ny1:=am_ hy1
  clear hy1
  replace H:=bi_ H;obtain ⟨t4,A3,H⟩:=H
  obtain rfl:=Option.some.inj H
  go_enter Tryz.func138,Tryz.ntmps138
  go_wp2_with (first|((with_reducible refine gd_ 8 ?_);refine rl_ (Kd.int .u8) 5 8 ([]:List Int) [] ?_;intro v2 w4 ho5 hb hg_ hnew_;clear hg_ hnew_;(first|rw [← Ny1.out] at ho5|(simp only [Int.reduceToNat] at ho5;rw [← Ny1.out] at ho5));have HO3:=rlo_ ho5 HB;replace HB:=ss_ HB hb;clear hb ho5;obtain ⟨Ao6,co6,eo6⟩:=Kd.R_slice HO3.out;subst eo6)|((with_reducible refine gq_ 119 9 ?_);refine gc_ 9 Tryz.func119 (spec_Digest.calls k _ _ y601 t4 _ (ch_ HO3) (cl_ HO3) A3.out) ?_;rintro e w7 ⟨rfl,hb⟩;refine ⟨_,rfl,?_⟩;replace HO3:=rb_ HO3 hb;replace HB:=ss_ HB hb;clear hb))
  go_ret
  exact ⟨e2_,bw_ HB⟩
 ·have c2b0:((l0.length:Int) == 0)=false:=beq_eq_false_iff_ne.mpr c2
  have c2b1:((l0.length:Int) != 0)=true:=bne_iff_ne.mpr c2
  have c2b2:¬ (l0=[]):=fun h_=>c2 (by rw [h_];rfl)
  replace H:=it_ H;obtain ⟨c8,H⟩|⟨c8,H⟩:=H
  ·have c8b0:((l0.length:Int) == 1)=true:=beq_iff_eq.mpr c8
   have c8b1:((l0.length:Int) != 1)=false:=bne_eq_false_iff_eq.mpr c8
   clear c8
   replace H:=ip_ H;obtain ⟨c9,H⟩:=H
   have c9b0:=decide_eq_true c9
   have c9b1:decide (0 < l0.length)=true:=decide_eq_true (by omega)
   clear c9
   replace H:=bi_ H;obtain ⟨t6,A10,H⟩:=H
   obtain rfl:=Option.some.inj H
   have p605:0≤(0:Int):=(by omega)
   have q5:0 < (l0.length:Int):=od_
   obtain ⟨ad5,e5,hx5_0⟩:=Kd.at_string HR0.out 0 p605 q5
   cases e5
   have qi5:(0 < l0.length)=True:=eq_true (by omega)
   (try rw [show ((0:Int)).toNat=0 from rfl] at hx5_0)
   (try rw [Addr.add_zero'] at hx5_0)
   replace p605:=eq_true p605
   replace q5:=eq_true q5
   go_enter Tryz.func138,Tryz.ntmps138
   go_wp2_with (first|((with_reducible refine gq_ 160 15 ?_);refine gc_ 15 Tryz.func160 (spec_LeafHash.calls k (rdOf ByteArray.empty l0 0) t6 _ A10.out) ?_;rintro e w11 ⟨rfl,hb⟩;refine ⟨_,rfl,?_⟩;replace HB:=ss_ HB hb;clear hb))
   go_ret
   exact ⟨e2_,bw_ HB⟩
  ·have c8b0:((l0.length:Int) == 1)=false:=beq_eq_false_iff_ne.mpr c8
   have c8b1:((l0.length:Int) != 1)=true:=bne_iff_ne.mpr c8
   replace H:=bi_ H;obtain ⟨t7,A12,H⟩:=H
   replace H:=ip_ H;obtain ⟨c13,H⟩:=H
   have c13b0:=eq_true c13
   have c13b1:=decide_eq_true c13
   clear c13
   replace H:=ip_ H;obtain ⟨c14,H⟩:=H
   have c14b0:=eq_true c14
   have c14b1:=decide_eq_true c14
   clear c14
   replace H:=bi_ H;obtain ⟨t9,A15,H⟩:=H
   have c16b0:=eq_true (od_:0≤t7)
   have c17b0:=eq_true (od_:t7≤(l0.length:Int))
   replace H:=bi_ H;obtain ⟨t11,A18,H⟩:=H
   replace H:=bi_ H;obtain ⟨t12,A19,H⟩:=H
   obtain rfl:=Option.some.inj H
   go_enter Tryz.func138,Tryz.ntmps138
   try go_wp2_with (first|((with_reducible refine gq_ 161 18 ?_);refine gc_ 18 Tryz.func161 (spec_l6Half.calls k (l0.length:Int) t7 _ A12.out) ?_;rintro e w20 ⟨rfl,hb⟩;refine ⟨_,rfl,?_⟩;replace HB:=ss_ HB hb;clear hb))
   replace HB:=hd_ HB
   obtain ⟨i022,hi022,_,hsz22,_⟩:=info_parts info9
   obtain ⟨hcut22,hA22,hC22⟩:=print_take_of (P:=Tryz.prog) Value.string (⟨#[]⟩:ByteArray) 22 9 .i64 Tryz.underlying22 hi022 hsz22 A0 c0 l0 t7 (od_) (od_) HC0.out
   have HR8:=am_ (Kd.C_of_reads (h1:=fun _=>rfl) (hA22 _ (Kd.reads_of_C HR0.out)))
   have HC8:=am_ hC22
   clear hA22 hC22 hi022 hsz22
   obtain ⟨i023,hi023,_,hsz23,_⟩:=info_parts info9
   obtain ⟨A23,hcut23,hA23,hC23⟩:=print_drop_of (P:=Tryz.prog) Value.string (⟨#[]⟩:ByteArray) 22 9 .i64 Tryz.underlying22 hi023 hsz23 A0 c0 l0 t7 (od_) (od_) HC0.out
   have HR10:=am_ (Kd.C_of_reads (h1:=fun _=>rfl) (hA23 _ (Kd.reads_of_C HR0.out)))
   have HC10:=am_ hC23
   clear hA23 hC23 hi023 hsz23
   refine sw_ 10 (fun w'=>True) [] spec_l6Root.tab7 spec_l6Root.bits7 trivial (fun hHeld HT_ HW_=>?_)
   generalize w20.drew=w21 at HB HR8 HR10 hHeld ⊢
   refine pt_ 0 19 1 ?_
   refine pt_ 1 20 3 ?_
   refine pt_ 2 21 7 ?_
   refine pt_ 4 23 23 ?_
   refine pt_ 5 24 55 ?_
   refine pt_ 6 25 119 ?_
   refine oz_ 3 22 10 127 (fun K hK=>?_)
   refine goes_ Tryz.func138 (by kernel_rfl) rfl #[.slice A0 (l0.take (t7:Int).toNat).length c0] (by rfl) rfl rfl (by (try simp only [List.map_toArray,List.map_cons,List.map_nil]);first|done|(rw [show (l0.take (t7:Int).toNat).length=t7.toNat from (by rw [List.length_take];have h_:(t7:Int)≤(l0.length:Int):=od_;omega)] <;> rfl)|rfl|(simp only [List.length_drop,List.length_take];rfl)) ?_
   with_reducible refine (ih k (by omega) _ _ (l0.take (t7:Int).toNat) t9 _ ?side1 ?side2 A15.out).mono ?_
   (case side1=>exact cb_ HR8 HB)
   (case side2=>exact HC8.out)
   rintro e w24 ⟨rfl,hb⟩
   refine ⟨_,rfl,?_⟩
   replace HB:=ss_ HB hb
   clear hb
   refine hK.out _ _ trivial (fun hHeld=>?_)
   clear hK K
   refine no_ 22 ?_
   refine oz_ 7 26 10 255 (fun K hK=>?_)
   refine goes_ Tryz.func138 (by kernel_rfl) rfl #[.slice A23 (l0.drop (t7:Int).toNat).length (c0 - t7.toNat)] (by rfl) rfl rfl (by (try simp only [List.map_toArray,List.map_cons,List.map_nil]);first|done|(rw [show (l0.drop (t7:Int).toNat).length=(l0.length - t7.toNat) from List.length_drop] <;> rfl)|rfl|(simp only [List.length_drop,List.length_take];rfl)) ?_
   with_reducible refine (ih k (by omega) _ _ (l0.drop (t7:Int).toNat) t11 _ ?side1 ?side2 A18.out).mono ?_
   (case side1=>exact cb_ HR10 HB)
   (case side2=>exact HC10.out)
   rintro e w25 ⟨rfl,hb⟩
   refine ⟨_,rfl,?_⟩
   replace HB:=ss_ HB hb
   clear hb
   refine hK.out _ _ trivial (fun hHeld=>?_)
   clear hK K
   refine no_ 26 ?_
   refine oz_ 8 27 10 511 (fun K hK=>?_)
   refine gf_ Tryz.func162 (spec_NodeHash.calls k t9 t11 t12 _ A19.out) ?_
   rintro e w26 ⟨rfl,hb⟩
   refine ⟨_,rfl,?_⟩
   replace HB:=ss_ HB hb
   clear hb
   refine hK.out _ _ trivial (fun hHeld=>?_)
   clear hK K
   refine no_ 27 ?_
   refine pt_ 9 2 1023 ?_
   refine dn_ ?_
   try go_wp2
   go_ret
   exact ⟨e2_,bw_ HB⟩
def spec_HeadOf.f (k:Nat) (l0:List ByteArray):Option (Int × ByteArray):=if (l0.length:Int) > 200 then (some (0,(⟨#[]⟩:ByteArray))) else ((spec_l6Root.f k l0).bind fun t602=>(some ((l0.length:Int),t602)))
theorem spec_HeadOf.calls (k:Nat) (A0:Option Addr) (c0:Nat) (l0:List ByteArray) (r1:Int) (r2:ByteArray) (w:World) (hr0:Kd.C Kd.string w A0 l0.length l0) (hc0:l0.length≤c0) (h:spec_HeadOf.f k l0=some (r1,r2)) :
  Calls Tryz.prog 110 #[.slice A0 l0.length c0] w fun e w'=>e = .returned (.agg #[.int .i64 r1,.string r2])∧Below w.heap.size w w':=by
 have hu37:=Tryz.underlying37
 have HR0:=am_ hr0
 have HC0:=am_ hc0
 clear hr0 hc0
 have HB:=h0_ w
 have H:(if (l0.length:Int) > 200 then (some (0,(⟨#[]⟩:ByteArray))) else ((spec_l6Root.f k l0).bind fun t602=>(some ((l0.length:Int),t602))))=some (r1,r2):=h
 clear h
 replace H:=it_ H;obtain ⟨c2,H⟩|⟨c2,H⟩:=H
 ·have c2b0:decide (200 < (l0.length:Int))=true:=decide_eq_true c2
  have c2b1:decide (200 < l0.length)=true:=decide_eq_true (by omega)
  clear c2
  replace H:=so2_ H;obtain ⟨rfl,rfl⟩:=H
  go_enter Tryz.func110,Tryz.ntmps110
  go_wp2_with (first|((with_reducible refine gd_ 2 ?_);refine x37_ 2 (hx_ HB ?_);clear HB;intro gb1 w3 BK1 GW1 HB;have GE1:=GW1;have hz4:=cz2_ BK1))
  refine bodyPost_ret (rcr_ gb1 37 #[.int .i64 0,.string (⟨#[]⟩:ByteArray)] BK1 Tryz.underlying37) rfl ?_
  exact ⟨e2_,bw_ HB⟩
 ·have c2b0:decide (200 < (l0.length:Int))=false:=decide_eq_false c2
  have c2b1:decide (200 < l0.length)=false:=decide_eq_false (by omega)
  clear c2
  replace H:=bi_ H;obtain ⟨t602,A5,H⟩:=H
  replace H:=so2_ H;obtain ⟨rfl,rfl⟩:=H
  go_enter Tryz.func110,Tryz.ntmps110
  go_wp2_with (first|((with_reducible refine gd_ 2 ?_);refine x37_ 2 (hx_ HB ?_);clear HB;intro gb1 w6 BK1 GW1 HB;have GE1:=GW1)|((with_reducible refine gq_ 138 10 ?_);refine gc_ 10 Tryz.func138 (spec_l6Root.calls k _ _ l0 t602 _ (cb_ HR0 HB) HC0.out A5.out) ?_;rintro e w7 ⟨rfl,hb⟩;refine ⟨_,rfl,?_⟩;replace BK1:=kl_ BK1 hb;replace HB:=ss_ HB hb;clear hb;have hz8:=cz2_ BK1))
  refine bodyPost_ret (rcr_ gb1 37 #[.int .i64 (l0.length:Int),.string t602] BK1 Tryz.underlying37) rfl ?_
  exact ⟨e2_,bw_ HB⟩
theorem eqA37 (d:Nat) (w:World) (x0 y0:Int) (x1 y1:ByteArray) :
  (Op.equalIn (d+2) 37 (.agg #[.int .i64 x0,.string x1]) (.agg #[.int .i64 y0,.string y1])).run Tryz.prog w = .ok (x0 == y0 && (x1.toList == y1.toList)) w:=by
 refine eqA_of Tryz.underlying37 (by kernel_rfl) ?_
 refine eqf_cons (by rfl) (by go_simp;rfl) (by go_simp;rfl) (by go_simp) ?_
 exact eqf_last (by rfl) (by go_simp;rfl) (by go_simp;rfl) (by go_simp)
section
attribute [local go_sem high] eqA37
def spec_LogOk.f (k:Nat) (l0_0:List ByteArray) (a0_1:Int) (a0_2:ByteArray):Option (Bool):=if (l0_0.length:Int)≤200 then ((spec_HeadOf.f k l0_0).bind fun bt2=>(some (a0_1 == bt2.1 && (a0_2.toList == bt2.2.toList)))) else (some false)
def spec_LogOk.T1:Bool × List (List Nat × List Nat):=(true,[([],[]),([0],[0]),([1],[1]),([2],[2]),([3],[3]),([4],[4]),([5,4],[4,5]),([4],[4]),([7,4],[4,7]),([8,4,4],[4,8]),([6,9,4],[4,6,9]),([4,10],[4,10]),([11,9,0,1,2,3,4,5,6,7,8,9,10,11],[11])])
def spec_LogOk.B1:List Nat:=[0,1,3,7,15,31,63,31,159,415,1023,2047,4095]
theorem spec_LogOk.tab1:rtab .any (opsOf Tryz.f107 1)=spec_LogOk.T1:=by kernel_rfl
theorem spec_LogOk.bits1:waitsOk spec_LogOk.T1.2 spec_LogOk.B1=true:=by kernel_rfl
theorem spec_LogOk.calls (k:Nat) (A0_0:Option Addr) (c0_0:Nat) (l0_0:List ByteArray) (a0_1:Int) (a0_2:ByteArray) (r:Bool) (w:World) (hr0_0:Kd.C Kd.string w A0_0 l0_0.length l0_0) (hc0_0:l0_0.length≤c0_0) (h:spec_LogOk.f k l0_0 a0_1 a0_2=some r) :
  Calls Tryz.prog 107 #[.agg #[.slice A0_0 l0_0.length c0_0,.int .i64 a0_1,.string a0_2]] w fun e w'=>e = .returned (.bool r)∧Below w.heap.size w w':=by
 have hu39:=Tryz.underlying39
 have hu37:=Tryz.underlying37
 have HR0_0:=am_ hr0_0
 have HC0_0:=am_ hc0_0
 clear hr0_0 hc0_0
 have HB:=h0_ w
 have H:(if (l0_0.length:Int)≤200 then ((spec_HeadOf.f k l0_0).bind fun bt2=>(some (a0_1 == bt2.1 && (a0_2.toList == bt2.2.toList)))) else (some false))=some r:=h
 clear h
 replace H:=it_ H;obtain ⟨c2,H⟩|⟨c2,H⟩:=H
 ·have c2b0:=decide_eq_true c2
  have c2b1:decide (l0_0.length≤200)=true:=decide_eq_true (by omega)
  clear c2
  replace H:=bi_ H;obtain ⟨⟨t602,t3⟩,A3,H⟩:=H
  dsimp only at H
  obtain rfl:=Option.some.inj H
  go_enter Tryz.func107,Tryz.ntmps107
  try go_wp2_with (first|((with_reducible refine gd_ 1 ?_);refine bx_ 1 39 #[.slice A0_0 l0_0.length c0_0,.int .i64 a0_1,.string a0_2] (hx_ HB ?_);clear HB;intro gb1 w4 BK1 GW1 HB;have GE1:=GW1))
  replace BK1:=bd_ BK1
  replace HB:=hd_ HB
  refine sw_ 13 (fun w'=>w'.cell? ⟨gb1,0,none⟩=some (.slice A0_0 l0_0.length c0_0)∧w'.cell? ⟨gb1,1,none⟩=some (.int .i64 a0_1)∧w'.cell? ⟨gb1,2,none⟩=some (.string a0_2)) [] spec_LogOk.tab1 spec_LogOk.bits1 ⟨bc0_ BK1.out,bc1_ BK1.out,bc2_ BK1.out⟩ (fun hHeld HT_ HW_=>?_)
  generalize w4.drew=w5 at BK1 HB hHeld ⊢
  refine pt_ 0 3 1 ?_
  refine tt_ 1 4 3 ?_
  refine pt_ 2 5 7 ?_
  refine pt_ 3 6 15 ?_
  refine pt_ 4 7 31 ?_
  refine pt_ 5 8 63 ?_
  refine pt_ 7 10 191 ?_
  refine tt_ 6 9 255 ?_
  refine tt_ 8 11 511 ?_
  refine oz_ 9 12 13 1023 (fun K hK=>?_)
  refine gf_ Tryz.func110 (spec_HeadOf.calls k _ _ l0_0 t602 t3 _ (cb_ HR0_0 HB) HC0_0.out A3.out) ?_
  rintro e w6 ⟨rfl,hb⟩
  refine ⟨_,rfl,?_⟩
  replace BK1:=kl_ BK1 hb
  replace HB:=ss_ HB hb
  clear hb
  refine hK.out _ _ ⟨bc0_ BK1.out,bc1_ BK1.out,bc2_ BK1.out⟩ (fun hHeld=>?_)
  clear hK K
  refine no_ 12 ?_
  refine pt_ 10 13 2047 ?_
  refine pt_ 11 14 4095 ?_
  refine pt_ 12 2 8191 ?_
  refine dn_ ?_
  try go_wp2
  go_ret
  exact ⟨e2_,bw_ HB⟩
 ·have c2b0:=decide_eq_false c2
  have c2b1:decide (l0_0.length≤200)=false:=decide_eq_false (by omega)
  clear c2
  obtain rfl:=Option.some.inj H
  go_enter Tryz.func107,Tryz.ntmps107
  try go_wp2_with (first|((with_reducible refine gd_ 1 ?_);refine bx_ 1 39 #[.slice A0_0 l0_0.length c0_0,.int .i64 a0_1,.string a0_2] (hx_ HB ?_);clear HB;intro gb1 w7 BK1 GW1 HB;have GE1:=GW1))
  replace BK1:=bd_ BK1
  replace HB:=hd_ HB
  refine sw_ 13 (fun w'=>w'.cell? ⟨gb1,0,none⟩=some (.slice A0_0 l0_0.length c0_0)∧w'.cell? ⟨gb1,1,none⟩=some (.int .i64 a0_1)∧w'.cell? ⟨gb1,2,none⟩=some (.string a0_2)) [] spec_LogOk.tab1 spec_LogOk.bits1 ⟨bc0_ BK1.out,bc1_ BK1.out,bc2_ BK1.out⟩ (fun hHeld HT_ HW_=>?_)
  generalize w7.drew=w8 at BK1 HB hHeld ⊢
  refine pt_ 0 3 1 ?_
  refine tt_ 1 4 3 ?_
  refine pt_ 2 5 7 ?_
  refine pt_ 3 6 15 ?_
  refine pt_ 4 7 31 ?_
  refine ut_ 5 8 63 ?_
  refine ut_ 6 9 127 ?_
  refine ut_ 7 10 255 ?_
  refine ut_ 8 11 511 ?_
  refine ut_ 9 12 1023 ?_
  refine ut_ 10 13 2047 ?_
  refine pt_ 11 14 4095 ?_
  refine pt_ 12 2 8191 ?_
  refine dn_ ?_
  try go_wp2
  go_ret
  exact ⟨e2_,bw_ HB⟩
end
def spec_LogNew.f (k:Nat)  : Option (List ByteArray × Int × ByteArray):=(spec_HeadOf.f k (([]:List ByteArray))).bind fun bt5=>(some (([]:List ByteArray),bt5.1,bt5.2))
theorem spec_LogNew.calls (k:Nat)  (r1:List ByteArray) (r2:Int) (r3:ByteArray) (w:World) (h:spec_LogNew.f k  = some (r1,r2,r3)) :
  Calls Tryz.prog 137 #[] w fun e w'=>∃ v0_:Value,e = .returned (.agg #[v0_,.int .i64 r2,.string r3])∧Kd.R Kd.string 9 w' w.heap.size (fun _=>True) v0_ r1∧Below w.heap.size w w':=by
 have hu39:=Tryz.underlying39
 have HB:=h0_ w
 have H:((spec_HeadOf.f k (([]:List ByteArray))).bind fun bt5=>(some (([]:List ByteArray),bt5.1,bt5.2)))=some (r1,r2,r3):=h
 clear h
 obtain ⟨y602,hy2⟩:∃ y_:List ByteArray,y_=(([]:List ByteArray)):=⟨_,rfl⟩
 replace H:((spec_HeadOf.f k y602).bind fun bt5=>(some (([]:List ByteArray),bt5.1,bt5.2)))=some (r1,r2,r3):=yh_ hy2 H
 have Ny2:=am_ hy2
 clear hy2
 replace H:=bi_ H;obtain ⟨⟨t5,t6⟩,A1,H⟩:=H
 dsimp only at H
 replace H:=so3_ H;obtain ⟨rfl,rfl,rfl⟩:=H
 go_enter Tryz.func137,Tryz.ntmps137
 go_wp2_with (first|((with_reducible refine gd_ 0 ?_);refine x39_ 0 (hx_ HB ?_);clear HB;intro gb1 w2 BK1 GW1 HB;have GE1:=GW1)|((with_reducible refine gd_ 1 ?_);refine rl_ Kd.string 9 1 ([]:List ByteArray) [] ?_;intro v3 w3 ho4 hb hg_ hnew_;clear hg_ hnew_;(first|rw [← Ny2.out] at ho4|(simp only [Int.reduceToNat] at ho4;rw [← Ny2.out] at ho4));have HO4:=rlo_ ho4 HB;replace BK1:=kl_ BK1 hb;replace HB:=ss_ HB hb;clear hb ho4;obtain ⟨Ao5,co5,eo5⟩:=Kd.R_slice HO4.out;subst eo5)|((with_reducible refine gq_ 110 2 ?_);refine gc_ 2 Tryz.func110 (spec_HeadOf.calls k _ _ y602 t5 t6 _ (ch_ HO4) (cl_ HO4) A1.out) ?_;rintro e w6 ⟨rfl,hb⟩;refine ⟨_,rfl,?_⟩;replace HO4:=rb_ HO4 hb;replace BK1:=kl_ BK1 hb;replace HB:=ss_ HB hb;clear hb;have hz7:=cz3_ BK1))
 refine bodyPost_ret (rcr_ gb1 39 #[.slice none 0 0,.int .i64 t5,.string t6] BK1 Tryz.underlying39) rfl ?_
 exact ⟨_,e2_,nil_,bw_ HB⟩
def spec_l8Same.l0:Nat->List ByteArray->List ByteArray->Int->Option (Bool)
 | 0,_,_,_=>none
 | k+1,x0,x1,x5=>if x5 < (x0.length:Int) then (if 0≤x5 then (if x5 < (x1.length:Int) then (if (rdOf ByteArray.empty x0 x5).toList=(rdOf ByteArray.empty x1 x5).toList then (spec_l8Same.l0 k x0 x1 (wrap64 (x5+1))) else (some false)) else (none)) else (none)) else (some true)
def spec_l8Same.f (k:Nat) (l0:List ByteArray) (l1:List ByteArray):Option (Bool):=if (l0.length:Int)=(l1.length:Int) then (spec_l8Same.l0 k l0 l1 0) else (some false)
theorem spec_l8Same.calls (k:Nat) (A0:Option Addr) (c0:Nat) (l0:List ByteArray) (A1:Option Addr) (c1:Nat) (l1:List ByteArray) (r:Bool) (w:World) (hr0:Kd.C Kd.string w A0 l0.length l0) (hc0:l0.length≤c0) (hr1:Kd.C Kd.string w A1 l1.length l1) (hc1:l1.length≤c1) (h:spec_l8Same.f k l0 l1=some r) :
  Calls Tryz.prog 109 #[.slice A0 l0.length c0,.slice A1 l1.length c1] w fun e w'=>e = .returned (.bool r)∧Drawn0 w w':=by
 have HR0:=am_ hr0
 have HC0:=am_ hc0
 clear hr0 hc0
 have HR1:=am_ hr1
 have HC1:=am_ hc1
 clear hr1 hc1
 have H:(if (l0.length:Int)=(l1.length:Int) then (spec_l8Same.l0 k l0 l1 0) else (some false))=some r:=h
 clear h
 replace H:=it_ H;obtain ⟨c3,H⟩|⟨c3,H⟩:=H
 ·have c3b0:((l0.length:Int) == (l1.length:Int))=true:=beq_iff_eq.mpr c3
  have c3b1:((l0.length:Int) != (l1.length:Int))=false:=bne_eq_false_iff_eq.mpr c3
  have c3b2:(l0.length == l1.length)=true:=by first|simpa using c3|(simp at c3 ⊢;omega)
  clear c3
  have H':=am_ H
  clear H
  go_enter Tryz.func109,Tryz.ntmps109
  go_wp2
  repeat (go_quiet (fail);try go_wp2)
  go_loopg [5] k (fun kq v5 w'=>∃ (x5_1:Int),v5 = .int .i64 x5_1∧Aside0 (spec_l8Same.l0 kq l0 l1 x5_1=some r)∧Aside0 (kq≤k)∧Drawn0 w w')
  case atStart => exact ⟨(0),e1_,H',⟨Nat.le_refl _⟩,dw_⟩
  case round =>
   clear H'
   try clear c3
   try clear c3b0
   try clear c3b1
   try clear c3b2
   obtain ⟨x5_1,rfl,HA,HK1,⟨m1,rfl⟩⟩:=hrel
   cases gk with
   | zero=>exact absurd HA.out (by simp [spec_l8Same.l0])
   | succ k1 =>
    have H:=HA.out
    clear HA
    simp only [spec_l8Same.l0] at H
    replace H:=itd_ H;obtain ⟨c4b0,H⟩|⟨c4b0,H⟩:=H
    ·replace H:=ipd_ H;obtain ⟨c5b0,H⟩:=H
     replace H:=ipd_ H;obtain ⟨c6b0,H⟩:=H
     replace H:=it_ H;obtain ⟨c7,H⟩|⟨c7,H⟩:=H
     ·have c7b0:((rdOf ByteArray.empty l0 x5_1).toList == (rdOf ByteArray.empty l1 x5_1).toList)=true:=beq_iff_eq.mpr c7
      have c7b1:((rdOf ByteArray.empty l0 x5_1).toList != (rdOf ByteArray.empty l1 x5_1).toList)=false:=bne_eq_false_iff_eq.mpr c7
      clear c7
      have H':=am_ H
      clear H
      have p601:0≤(x5_1:Int):=od_
      have q1:x5_1 < (l0.length:Int):=od_
      obtain ⟨ad1,e601,hx1_0⟩:=Kd.at_string HR0.out x5_1 p601 q1
      cases e601
      replace p601:=eq_true p601
      replace q1:=eq_true q1
      have p602:0≤(x5_1:Int):=od_
      have q602:x5_1 < (l1.length:Int):=od_
      obtain ⟨ad2,e602,hx2_0⟩:=Kd.at_string HR1.out x5_1 p602 q602
      cases e602
      replace p602:=eq_true p602
      replace q602:=eq_true q602
      go_wp2
      repeat (go_quiet (fail);try go_wp2)
      go_roundg k1
      case measure => have:=HK1.out;omega
      case rel => exact ⟨(wrap64 (x5_1+1)),e1_,H',⟨by have:=HK1.out;omega⟩,dw_⟩
     ·have c7b0:((rdOf ByteArray.empty l0 x5_1).toList == (rdOf ByteArray.empty l1 x5_1).toList)=false:=beq_eq_false_iff_ne.mpr c7
      have c7b1:((rdOf ByteArray.empty l0 x5_1).toList != (rdOf ByteArray.empty l1 x5_1).toList)=true:=bne_iff_ne.mpr c7
      obtain rfl:=Option.some.inj H
      have p601:0≤(x5_1:Int):=od_
      have q1:x5_1 < (l0.length:Int):=od_
      obtain ⟨ad1,e601,hx1_0⟩:=Kd.at_string HR0.out x5_1 p601 q1
      cases e601
      replace p601:=eq_true p601
      replace q1:=eq_true q1
      have p602:0≤(x5_1:Int):=od_
      have q602:x5_1 < (l1.length:Int):=od_
      obtain ⟨ad2,e602,hx2_0⟩:=Kd.at_string HR1.out x5_1 p602 q602
      cases e602
      replace p602:=eq_true p602
      replace q602:=eq_true q602
      go_wp2
      repeat (go_quiet (fail);try go_wp2)
      go_ret
      exact ⟨e1_,dw_⟩
    ·obtain rfl:=Option.some.inj H
     go_wp2
     repeat (go_quiet (fail);try go_wp2)
     go_ret
     exact ⟨e1_,dw_⟩
 ·have c3b0:((l0.length:Int) == (l1.length:Int))=false:=beq_eq_false_iff_ne.mpr c3
  have c3b1:((l0.length:Int) != (l1.length:Int))=true:=bne_iff_ne.mpr c3
  have c3b2:(l0.length == l1.length)=false:=by first|simpa using c3|(simp at c3 ⊢;omega)
  obtain rfl:=Option.some.inj H
  go_enter Tryz.func109,Tryz.ntmps109
  go_wp2
  repeat (go_quiet (fail);try go_wp2)
  go_ret
  exact ⟨e1_,dw_⟩
def slices_Equal_string_string.l0:Nat->List ByteArray->List ByteArray->Int->Int->Option (Bool)
 | 0,_,_,_,_=>none
 | k+1,x0,x1,x12,x13=>if x13 < x12 then (if 0≤x13 then (if x13 < (x0.length:Int) then (if x13 < (x1.length:Int) then (if (rdOf ByteArray.empty x0 x13).toList=(rdOf ByteArray.empty x1 x13).toList then (slices_Equal_string_string.l0 k x0 x1 x12 (wrap64 (x13+1))) else (some false)) else (none)) else (none)) else (none)) else (some true)
def slices_Equal_string_string.f (k:Nat) (l0:List ByteArray) (l1:List ByteArray):Option (Bool):=if (l0.length:Int)=(l1.length:Int) then (slices_Equal_string_string.l0 k l0 l1 (l0.length:Int) 0) else (some false)
theorem slices_Equal_string_string.calls (k:Nat) (A0:Option Addr) (c0:Nat) (l0:List ByteArray) (A1:Option Addr) (c1:Nat) (l1:List ByteArray) (r:Bool) (w:World) (hr0:Kd.C Kd.string w A0 l0.length l0) (hc0:l0.length≤c0) (hr1:Kd.C Kd.string w A1 l1.length l1) (hc1:l1.length≤c1) (h:slices_Equal_string_string.f k l0 l1=some r) :
  Calls Tryz.prog 66 #[.slice A0 l0.length c0,.slice A1 l1.length c1] w fun e w'=>e = .returned (.bool r)∧Drawn0 w w':=by
 have HR0:=am_ hr0
 have HC0:=am_ hc0
 clear hr0 hc0
 have HR1:=am_ hr1
 have HC1:=am_ hc1
 clear hr1 hc1
 have H:(if (l0.length:Int)=(l1.length:Int) then (slices_Equal_string_string.l0 k l0 l1 (l0.length:Int) 0) else (some false))=some r:=h
 clear h
 replace H:=it_ H;obtain ⟨c3,H⟩|⟨c3,H⟩:=H
 ·have c3b0:((l0.length:Int) == (l1.length:Int))=true:=beq_iff_eq.mpr c3
  have c3b1:((l0.length:Int) != (l1.length:Int))=false:=bne_eq_false_iff_eq.mpr c3
  have c3b2:(l0.length == l1.length)=true:=by first|simpa using c3|(simp at c3 ⊢;omega)
  clear c3
  have H':=am_ H
  clear H
  go_enter Tryz.func66,Tryz.ntmps66
  go_wp2
  repeat (go_quiet (fail);try go_wp2)
  go_loopg [13] k (fun kq v13 w'=>∃ (x13_1:Int),v13 = .int .i64 x13_1∧Aside0 (slices_Equal_string_string.l0 kq l0 l1 (l0.length:Int) x13_1=some r)∧Aside0 (kq≤k)∧Drawn0 w w')
  case atStart => exact ⟨(0),e1_,H',⟨Nat.le_refl _⟩,dw_⟩
  case round =>
   clear H'
   try clear c3
   try clear c3b0
   try clear c3b1
   try clear c3b2
   obtain ⟨x13_1,rfl,HA,HK1,⟨m1,rfl⟩⟩:=hrel
   cases gk with
   | zero=>exact absurd HA.out (by simp [slices_Equal_string_string.l0])
   | succ k1 =>
    have H:=HA.out
    clear HA
    simp only [slices_Equal_string_string.l0] at H
    replace H:=itd_ H;obtain ⟨c4b0,H⟩|⟨c4b0,H⟩:=H
    ·replace H:=ipd_ H;obtain ⟨c5b0,H⟩:=H
     replace H:=ipd_ H;obtain ⟨c6b0,H⟩:=H
     replace H:=ipd_ H;obtain ⟨c7b0,H⟩:=H
     replace H:=it_ H;obtain ⟨c8,H⟩|⟨c8,H⟩:=H
     ·have c8b0:((rdOf ByteArray.empty l0 x13_1).toList == (rdOf ByteArray.empty l1 x13_1).toList)=true:=beq_iff_eq.mpr c8
      have c8b1:((rdOf ByteArray.empty l0 x13_1).toList != (rdOf ByteArray.empty l1 x13_1).toList)=false:=bne_eq_false_iff_eq.mpr c8
      clear c8
      have H':=am_ H
      clear H
      have p601:0≤(x13_1:Int):=od_
      have q1:x13_1 < (l0.length:Int):=od_
      obtain ⟨ad1,e601,hx1_0⟩:=Kd.at_string HR0.out x13_1 p601 q1
      cases e601
      replace p601:=eq_true p601
      replace q1:=eq_true q1
      have p602:0≤(x13_1:Int):=od_
      have q602:x13_1 < (l1.length:Int):=od_
      obtain ⟨ad2,e602,hx2_0⟩:=Kd.at_string HR1.out x13_1 p602 q602
      cases e602
      replace p602:=eq_true p602
      replace q602:=eq_true q602
      go_wp2
      repeat (go_quiet (fail);try go_wp2)
      go_roundg k1
      case measure => have:=HK1.out;omega
      case rel => exact ⟨(wrap64 (x13_1+1)),e1_,H',⟨by have:=HK1.out;omega⟩,dw_⟩
     ·have c8b0:((rdOf ByteArray.empty l0 x13_1).toList == (rdOf ByteArray.empty l1 x13_1).toList)=false:=beq_eq_false_iff_ne.mpr c8
      have c8b1:((rdOf ByteArray.empty l0 x13_1).toList != (rdOf ByteArray.empty l1 x13_1).toList)=true:=bne_iff_ne.mpr c8
      obtain rfl:=Option.some.inj H
      have p601:0≤(x13_1:Int):=od_
      have q1:x13_1 < (l0.length:Int):=od_
      obtain ⟨ad1,e601,hx1_0⟩:=Kd.at_string HR0.out x13_1 p601 q1
      cases e601
      replace p601:=eq_true p601
      replace q1:=eq_true q1
      have p602:0≤(x13_1:Int):=od_
      have q602:x13_1 < (l1.length:Int):=od_
      obtain ⟨ad2,e602,hx2_0⟩:=Kd.at_string HR1.out x13_1 p602 q602
      cases e602
      replace p602:=eq_true p602
      replace q602:=eq_true q602
      go_wp2
      repeat (go_quiet (fail);try go_wp2)
      go_ret
      exact ⟨e1_,dw_⟩
    ·obtain rfl:=Option.some.inj H
     go_wp2
     repeat (go_quiet (fail);try go_wp2)
     go_ret
     exact ⟨e1_,dw_⟩
 ·have c3b0:((l0.length:Int) == (l1.length:Int))=false:=beq_eq_false_iff_ne.mpr c3
  have c3b1:((l0.length:Int) != (l1.length:Int))=true:=bne_iff_ne.mpr c3
  have c3b2:(l0.length == l1.length)=false:=by first|simpa using c3|(simp at c3 ⊢;omega)
  obtain rfl:=Option.some.inj H
  go_enter Tryz.func66,Tryz.ntmps66
  go_wp2
  repeat (go_quiet (fail);try go_wp2)
  go_ret
  exact ⟨e1_,dw_⟩
section
attribute [local go_sem high] eqA37
mutual
def spec_l12Replay.l0:Nat->List Int->Int->List ByteArray->Int->ByteArray->Option (List ByteArray × Int × ByteArray × Bool)
 | 0,_,_,_,_,_=>none
 | k+1,x0,x5,x8000,x8001,x8002=>if x5 < (x0.length:Int) then ((spec_GetCommit.f k x0 x5).bind fun bt8=>(if bt8.2.2.2.2=true then (spec_l12Replay.j1 k x0 bt8.2.2.1 bt8.2.2.2.1 (decide ((wrap64 ((x8000.length:Int) + (bt8.2.2.1.length:Int))) > 200)) x8000 x8001 x8002 bt8.1 bt8.2.1) else (spec_l12Replay.j1 k x0 bt8.2.2.1 bt8.2.2.2.1 true x8000 x8001 x8002 bt8.1 bt8.2.1))) else (some (x8000,x8001,x8002,true))
def spec_l12Replay.j1:Nat->List Int->List ByteArray->Int->Bool->List ByteArray->Int->ByteArray->Int->ByteArray->Option (List ByteArray × Int × ByteArray × Bool)
 | 0,_,_,_,_,_,_,_,_,_=>none
 | k+1,x0,x7,x8,x33,x8000,x8001,x8002,x16000,x16001=>if x33=true then (some (x8000,x8001,x8002,false)) else (if x8000.length+x7.length < 8796093022208 then ((some (x8000 ++ x7:List ByteArray)).bind fun y16=>((spec_HeadOf.f k y16).bind fun bt19=>(if (!(x16000 == bt19.1) || (!(x16001.toList == bt19.2.toList)))=true then (some (y16,x16000,x16001,false)) else (spec_l12Replay.l0 k x0 x8 y16 x16000 x16001)))) else (none))
end
def spec_l12Replay.f (k:Nat) (l0:List Int):Option (List ByteArray × Int × ByteArray × Bool):=(spec_LogNew.f k).bind fun bt2=>(spec_l12Replay.l0 k l0 0 bt2.1 bt2.2.1 bt2.2.2)
theorem spec_l12Replay.calls (k:Nat) (A0:Option Addr) (c0:Nat) (l0:List Int) (r1:List ByteArray) (r2:Int) (r3:ByteArray) (r4:Bool) (w:World) (hr0:Kd.C (Kd.int .u8) w A0 l0.length l0) (hc0:l0.length≤c0) (h:spec_l12Replay.f k l0=some (r1,r2,r3,r4)) :
  Calls Tryz.prog 108 #[.slice A0 l0.length c0] w fun e w'=>∃ v0_:Value,e = .returned (.tuple #[.agg #[v0_,.int .i64 r2,.string r3],.bool r4])∧Kd.R Kd.string 9 w' w.heap.size (fun _=>True) v0_ r1∧Below w.heap.size w w':=by
 have hu39:=Tryz.underlying39
 have hu37:=Tryz.underlying37
 have HR0:=am_ hr0
 have HC0:=am_ hc0
 clear hr0 hc0
 have HB:=h0_ w
 have H:((spec_LogNew.f k).bind fun bt2=>(spec_l12Replay.l0 k l0 0 bt2.1 bt2.2.1 bt2.2.2))=some (r1,r2,r3,r4):=h
 clear h
 replace H:=bi_ H;obtain ⟨⟨t602,t5,t6⟩,A2,H⟩:=H
 dsimp only at H
 have H':=am_ H
 clear H
 go_enter Tryz.func108,Tryz.ntmps108
 go_wp2_with (first|((with_reducible refine gd_ 2 ?_);(try (refine gate_guard (by rfl) ?_;dsimp only));refine x39_ 2 (hx_ HB ?_);clear HB;intro gb1 w3 BK1 GW1 HB;have GE1:=GW1)|((with_reducible refine gq_ 137 10 ?_);refine gc_ 10 Tryz.func137 (spec_LogNew.calls k  t602 t5 t6 _ A2.out) ?_;rintro e w4 ⟨v3,rfl,ho0,hb⟩;refine ⟨_,rfl,?_⟩;have HO4:=rlo_ ho0 HB;replace BK1:=kl_ BK1 hb;replace HB:=ss_ HB hb;clear hb ho0)|((with_reducible refine gd_ 4 ?_);(try (refine gate_guard (by rfl) ?_;dsimp only));refine x39_ 4 ?_;intro gb7 hg w5 hbox hb;replace HO4:=rb_ HO4 hb;have BK7:=am_ hbox;have GW7:=gg_ hg HB;have GE7:=GW7;replace HB:=ss_ HB hb;have NB1_7:=nla_ hg BK1;have NB7_1:=nga_ hg BK1;replace BK1:=kl_ BK1 hb;clear hb hbox hg;obtain ⟨Ao6,co6,eo6⟩:=Kd.R_slice HO4.out;subst eo6;have hnb7:=NB7_1.out;have hnc7:=NB1_7.out;have hz8:=cz3_ BK7))
 go_loopg [5] k (fun kq v5 w'=>∃ (x5_1:Int) (x2001_1:Int) (x2002_1:ByteArray) (x8000_1:List ByteArray) (x8001_1:Int) (x8002_1:ByteArray) (u8000:Value),v5 = .int .i64 x5_1∧Aside0 (spec_l12Replay.l0 kq l0 x5_1 x8000_1 x8001_1 x8002_1=some (r1,r2,r3,r4))∧Aside0 (kq≤k)∧Aside0 (Kd.R Kd.string 9 w' w.heap.size (fun _=>True) u8000 x8000_1)∧Aside0 (w'.heap[gb1]?=some (.cells #[(.slice none 0 0),.int .i64 x2001_1,.string x2002_1] 39 (0,0)))∧Aside0 (w'.heap[gb7]?=some (.cells #[u8000,.int .i64 x8001_1,.string x8002_1] 39 (0,0)))∧Aside0 (Below w.heap.size w w'))
 case atStart => exact ⟨(0),(0),((⟨#[]⟩:ByteArray)),(t602),(t5),(t6),(.slice Ao6 t602.length co6),e1_,H',⟨Nat.le_refl _⟩,⟨kfm_ HO4 BK7⟩,⟨kq_ BK1⟩,⟨kq_ BK7⟩,⟨bw_ HB⟩⟩
 case round =>
  clear H'
  try clear hz8
  obtain ⟨x5_1,x2001_1,x2002_1,x8000_1,x8001_1,x8002_1,u8000,rfl,HA,HK1,HO_8000,BK1,BK7,HB⟩:=hrel
  cases gk with
  | zero=>exact absurd HA.out (by simp [spec_l12Replay.l0])
  | succ k1 =>
   have H:=HA.out
   clear HA
   simp only [spec_l12Replay.l0] at H
   replace H:=itd_ H;obtain ⟨c9b0,H⟩|⟨c9b0,H⟩:=H
   ·replace H:=bi_ H;obtain ⟨⟨t8,t9,t10,t13,t14⟩,A10,H⟩:=H
    dsimp only at H
    have HC11:=am_ H
    clear H
    go_upto_region 5 with (first|((with_reducible refine gq_ 127 18 ?_);refine gc_ 18 Tryz.func127 (spec_GetCommit.calls k1 _ _ l0 x5_1 t8 t9 t10 t13 t14 _ (cb_ HR0 HB) HC0.out A10.out) ?_;rintro e w12 ⟨v11,rfl,ho0,hb⟩;refine ⟨_,rfl,?_⟩;have HO12:=am_ (Kd.R_lower (Kd.R_new' ho0 (lt_ HO_8000)) (sz_ HB));replace HO_8000:=re_ HO_8000 ho0 hb;replace BK1:=kl_ BK1 hb;replace BK7:=kl_ BK7 hb;replace HB:=ss_ HB hb;clear hb ho0)|((with_reducible refine gd_ 6 ?_);(try (refine gate_guard (by rfl) ?_;dsimp only));refine x37_ 6 ?_;intro gb15 hg w13 hbox hb;replace HO_8000:=rb_ HO_8000 hb;replace HO12:=rb_ HO12 hb;have BK15:=am_ hbox;have GW15:=gg_ hg HB;have GE15:=GW15;replace HB:=ss_ HB hb;have NB1_15:=nla_ hg BK1;have NB15_1:=nga_ hg BK1;replace BK1:=kl_ BK1 hb;have NB7_15:=nla_ hg BK7;have NB15_7:=nga_ hg BK7;replace BK7:=kl_ BK7 hb;clear hb hbox hg;have hnb14:=NB15_1.out;have hnc14:=NB1_15.out;have hnb15:=NB15_7.out;have hnc15:=NB7_15.out;have hz16:=cz2_ BK15))
    (try simp only [Act.put,List.setIfInBounds_toArray,List.set_cons_zero,List.set_cons_succ])
    go_cut [33] (fun v33 wc=>∃ (kq:Nat) (x33_10:Bool),v33 = .bool x33_10∧Aside0 (spec_l12Replay.j1 kq l0 t10 t13 x33_10 x8000_1 x8001_1 x8002_1 t8 t9=some (r1,r2,r3,r4))∧Aside0 (kq≤k1)∧Aside0 (Kd.R Kd.string 9 wc w.heap.size (fun k_=>some k_ ≠ (u8000:Value).ownBlock) v11 t10)∧Aside0 (Kd.R Kd.string 9 wc w.heap.size (fun k_=>some k_ ≠ (v11:Value).ownBlock) u8000 x8000_1)∧Aside0 (wc.heap[gb1]?=some (.cells #[(.slice none 0 0),.int .i64 x2001_1,.string x2002_1] 39 (0,0)))∧Aside0 (wc.heap[gb7]?=some (.cells #[u8000,.int .i64 x8001_1,.string x8002_1] 39 (0,0)))∧Aside0 (wc.heap[gb15]?=some (.cells #[.int .i64 t8,.string t9] 37 (0,0)))∧Aside0 (Below w.heap.size w wc))
    case first =>
     have H:=HC11.out
     clear HC11
     replace H:=itb_ H;obtain ⟨rfl,H⟩|⟨rfl,H⟩:=H
     ·have H':=am_ H
      clear H
      have hnb18:=NB7_1.out
      have hnc18:=NB1_7.out
      have hnb19:=NB7_15.out
      have hnc19:=NB15_7.out
      have hz20:=cz3_ BK7
      obtain ⟨Ao21,co21,eo21⟩:=Kd.R_slice HO_8000.out
      subst eo21
      obtain ⟨Ao22,co22,eo22⟩:=Kd.R_slice HO12.out
      subst eo22
      go_wp2
      go_meet
      case rel => exact ⟨_,(decide ((wrap64 ((x8000_1.length:Int) + (t10.length:Int))) > 200)),e1_,H',⟨by have:=HK1.out;first|omega|exact Nat.le_refl _⟩,⟨kr_ (Kd.R_mono (Kd.R_far (p:=⟨gb15,1,none⟩) (Kd.R_far (p:=⟨gb15,0,none⟩) (Kd.R_types HO12.out BK15.out (by decide)) (fun _ hk=>hk.2) (.int .i64 t8)) (fun _ hk=>hk.2) (.string t9)) (fun _ hk=>hk.1.2))⟩,⟨kr_ (Kd.R_mono (Kd.R_far (p:=⟨gb15,1,none⟩) (Kd.R_far (p:=⟨gb15,0,none⟩) (Kd.R_types HO_8000.out BK15.out (by decide)) (fun _ hk=>hk.2) (.int .i64 t8)) (fun _ hk=>hk.2) (.string t9)) (fun _ hk=>hk.1.2))⟩,⟨kq_ BK1⟩,⟨kq_ BK7⟩,⟨kq_ BK15⟩,⟨bw_ HB⟩⟩
     ·have H':=am_ H
      clear H
      go_wp2
      go_meet
      case rel => exact ⟨_,(true),e1_,H',⟨by have:=HK1.out;first|omega|exact Nat.le_refl _⟩,⟨kr_ (Kd.R_mono (Kd.R_far (p:=⟨gb15,1,none⟩) (Kd.R_far (p:=⟨gb15,0,none⟩) (Kd.R_types HO12.out BK15.out (by decide)) (fun _ hk=>hk.2) (.int .i64 t8)) (fun _ hk=>hk.2) (.string t9)) (fun _ hk=>hk.1.2))⟩,⟨kr_ (Kd.R_mono (Kd.R_far (p:=⟨gb15,1,none⟩) (Kd.R_far (p:=⟨gb15,0,none⟩) (Kd.R_types HO_8000.out BK15.out (by decide)) (fun _ hk=>hk.2) (.int .i64 t8)) (fun _ hk=>hk.2) (.string t9)) (fun _ hk=>hk.1.2))⟩,⟨kq_ BK1⟩,⟨kq_ BK7⟩,⟨kq_ BK15⟩,⟨bw_ HB⟩⟩
    case rest =>
     clear HC11
     try clear c1
     try clear p2
     try clear c7
     try clear c9b0
     try clear hz16
     try clear hz8
     obtain ⟨kq,x33_10,rfl,HA,HJ10,HO_7,HO_8000,BK1,BK7,BK15,HB⟩:=hcut
     cases kq with
     | zero=>exact absurd HA.out (by simp [spec_l12Replay.j1])
     | succ kj10 =>
      have H:=HA.out
      clear HA
      simp only [spec_l12Replay.j1] at H
      replace H:=itb_ H;obtain ⟨rfl,H⟩|⟨rfl,H⟩:=H
      ·replace H:=so4_ H;obtain ⟨rfl,rfl,rfl,rfl⟩:=H
       have hnb24:=NB7_1.out
       have hnc24:=NB1_7.out
       have hnb25:=NB7_15.out
       have hnc25:=NB15_7.out
       have hz26:=cz3_ BK7
       obtain ⟨Ao27,co27,eo27⟩:=Kd.R_slice HO_8000.out
       subst eo27
       have hnb28:=NB1_15.out
       have hnc28:=NB15_1.out
       have hz29:=cz3_ BK1
       go_wp2
       refine bodyPost_ret (rct_ gb1 39 #[.slice Ao27 x8000_1.length co27,.int .i64 x8001_1,.string x8002_1] BK1 Tryz.underlying39) rfl ?_
       exact ⟨_,e2_,kfm_ HO_8000 BK1,bw_ HB⟩
      ·replace H:=ip_ H;obtain ⟨c30,H⟩:=H
       have LMc30:=am_ c30
       clear c30
       obtain ⟨y16,Ny16,H⟩:=sb_ (x8000_1 ++ t10) H
       replace H:=bi_ H;obtain ⟨⟨t19,t20⟩,A31,H⟩:=H
       dsimp only at H
       replace H:=it_ H;obtain ⟨c32,H⟩|⟨c32,H⟩:=H
       ·have c32b0:(!(t8 == t19) || (!(t9.toList == t20.toList)))=true:=c32
        clear c32
        replace H:=so4_ H;obtain ⟨rfl,rfl,rfl,rfl⟩:=H
        have hnb33:=NB7_1.out
        have hnc33:=NB1_7.out
        have hnb34:=NB7_15.out
        have hnc34:=NB15_7.out
        have hz35:=cz3_ BK7
        obtain ⟨Ao37,co37,eo37⟩:=Kd.R_slice HO_7.out
        subst eo37
        try go_wp2_with (first|((with_reducible refine gate_builtin (b:=.append) (xs:=#[.tmp 36,.tmp 37]) rfl ?_);(try (refine gate_guard (by rfl) ?_;dsimp only));at_builtin;refine Kd.R_append_rows Kd.string (w0:=w) w.heap.size rfl (.tmp 36) (.tmp 37) 22 9 (.string ⟨#[]⟩) 16 rfl Tryz.underlying22 info9 rfl (by decide) (by omega) u8000 x8000_1 t10 _ _ _ (fun k_=>some k_ ≠ (.slice Ao37 t10.length co37:Value).ownBlock) (fun _=>False) rfl rfl ?aO ?aR (fun _ _ h=>h) (fun _ h=>h.elim) ?aF ?aB ?aS ?aL ?_;(case aR=>repeat (first|exact (Kd.R_reads' HO_7.out).2.2|(with_reducible refine Kd.C_alloc ?_ _)|(with_reducible refine Kd.C_drewN ?_ _)|(with_reducible refine Kd.C_drew ?_)));(case aB=>exact (bw_ HB));(case aF=>exact (fun k_ hk=>Kd.fresh' (lt_ HO_7) k_ hk));(case aO=>exact (kr_ HO_8000.out));(case aS=>exact (sz_ HB));(case aL=>have:=LMc30.out;omega);intro v17 w36 ho hb hg hat;rw [← Ny16.out] at ho;replace HO_7:=am_ (Kd.R_after (ok:=(fun _=>True)) (kr_ (Kd.R_mono HO_7.out (fun _ hk=>⟨trivial,hk⟩))) hg hat);replace BK1:=kg_ BK1 HO_8000 hg;replace BK7:=kg_ BK7 HO_8000 hg;replace BK15:=kg_ BK15 HO_8000 hg;replace HB:=am_ hb;have HO18:=am_ ho;clear HO_8000;clear ho hb hg hat;obtain ⟨Ao38,co38,eo38⟩:=Kd.R_slice HO18.out;subst eo38;have hz39:=cz3_ BK7;have hnb40:=NB15_1.out;have hnc40:=NB1_15.out;have hz41:=cz2_ BK15))
        obtain ⟨w42,hw_⟩:∃ w_:World,w_=(((w36.setCell ⟨gb7,0,none⟩ (.slice Ao38 y16.length co38)).setCell ⟨gb7,1,none⟩ (.int .i64 t8)).setCell ⟨gb7,2,none⟩ (.string t9)):=⟨_,rfl⟩
        replace HO_7:Aside0 (Kd.R Kd.string 9 w42 w.heap.size (fun k_=>some k_ ≠ (.slice Ao38 y16.length co38:Value).ownBlock) (.slice Ao37 t10.length co37) t10):=⟨by rw [hw_];exact kr_ (Kd.R_mono (Kd.R_far (p:=⟨gb7,2,none⟩) (Kd.R_far (p:=⟨gb7,1,none⟩) (Kd.R_far (p:=⟨gb7,0,none⟩) (Kd.R_types HO_7.out BK7.out (by decide)) (fun _ hk=>hk.2) (.slice Ao38 y16.length co38)) (fun _ hk=>hk.2) (.int .i64 t8)) (fun _ hk=>hk.2) (.string t9)) (fun _ hk=>hk.1.2))⟩
        replace HO18:Aside0 (Kd.R Kd.string 9 w42 w.heap.size (fun k_=>some k_ ≠ (.slice Ao37 t10.length co37:Value).ownBlock) (.slice Ao38 y16.length co38) y16):=⟨by rw [hw_];exact kfm_ HO18 BK7⟩
        replace BK1:Aside0 (w42.heap[gb1]?=some (.cells #[.slice none 0 0,.int .i64 x2001_1,.string x2002_1] 39 (0,0))):=⟨by rw [hw_];exact kq_ BK1⟩
        replace BK7:Aside0 (w42.heap[gb7]?=some (.cells #[.slice Ao38 y16.length co38,.int .i64 t8,.string t9] 39 (0,0))):=⟨by rw [hw_];exact kq_ BK7⟩
        replace BK15:Aside0 (w42.heap[gb15]?=some (.cells #[.int .i64 t8,.string t9] 37 (0,0))):=⟨by rw [hw_];exact kq_ BK15⟩
        replace HB:Aside0 (Below w.heap.size w w42):=⟨by rw [hw_];exact bw_ HB⟩
        rw [← hw_]
        clear hw_
        replace HO_7:=am_ (Kd.R_drew HO_7.out)
        replace HO18:=am_ (Kd.R_drew HO18.out)
        replace BK1:=bd_ BK1
        replace BK7:=bd_ BK7
        replace BK15:=bd_ BK15
        replace HB:=hd_ HB
        refine start_ (n:=5) (S:=fun w'=>w'.cell? ⟨gb15,0,none⟩=some (.int .i64 t8)∧w'.cell? ⟨gb15,1,none⟩=some (.string t9)∧w'.cell? ⟨gb7,0,none⟩=some (.slice Ao38 y16.length co38)∧w'.cell? ⟨gb7,1,none⟩=some (.int .i64 t8)∧w'.cell? ⟨gb7,2,none⟩=some (.string t9)) (ds:=[]) (lz_ 5 0) (by kernel_rfl) rfl rfl ⟨bc0_ BK15.out,bc1_ BK15.out,bc0_ BK7.out,bc1_ BK7.out,bc2_ BK7.out⟩ (fun hHeld=>?_)
        generalize w42.drew=w43 at HO_7 HO18 BK1 BK7 BK15 HB hHeld ⊢
        refine pk_ 1 44 2 ?_
        refine tk_ 0 43 3 ?_
        refine tk_ 2 45 7 ?_
        refine one_ (i:=3) (N:=some 46) (lz_ 5 15) rfl rfl (by kernel_rfl) (by decide) (fun K hK=>?_)
        refine gf_ Tryz.func110 (spec_HeadOf.calls kj10 _ _ y16 t19 t20 _ (ch_ HO18) (cl_ HO18) A31.out) ?_
        rintro e w44 ⟨rfl,hb⟩
        refine ⟨_,rfl,?_⟩
        replace HO_7:=rb_ HO_7 hb
        replace HO18:=rb_ HO18 hb
        replace BK1:=kl_ BK1 hb
        replace BK7:=kl_ BK7 hb
        replace BK15:=kl_ BK15 hb
        replace HB:=ss_ HB hb
        clear hb
        refine hK.out _ _ ⟨bc0_ BK15.out,bc1_ BK15.out,bc0_ BK7.out,bc1_ BK7.out,bc2_ BK7.out⟩ (fun hHeld=>?_)
        clear hK K
        refine no_ 46 ?_
        refine pk_ 4 47 31 ?_
        refine done_ (by kernel_rfl) ?_
        have hz45:=cz3_ BK7
        have hz46:=cz3_ BK1
        try go_wp2
        refine bodyPost_ret (rct_ gb1 39 #[.slice Ao38 y16.length co38,.int .i64 t8,.string t9] BK1 Tryz.underlying39) rfl ?_
        exact ⟨_,e2_,kfm_ HO18 BK1,bw_ HB⟩
       ·have c32b0:(!(t8 == t19) || (!(t9.toList == t20.toList)))=false:=by simpa using c32
        clear c32
        have H':=am_ H
        clear H
        have hnb47:=NB7_1.out
        have hnc47:=NB1_7.out
        have hnb48:=NB7_15.out
        have hnc48:=NB15_7.out
        have hz49:=cz3_ BK7
        obtain ⟨Ao51,co51,eo51⟩:=Kd.R_slice HO_7.out
        subst eo51
        try go_wp2_with (first|((with_reducible refine gate_builtin (b:=.append) (xs:=#[.tmp 36,.tmp 37]) rfl ?_);(try (refine gate_guard (by rfl) ?_;dsimp only));at_builtin;refine Kd.R_append_rows Kd.string (w0:=w) w.heap.size rfl (.tmp 36) (.tmp 37) 22 9 (.string ⟨#[]⟩) 16 rfl Tryz.underlying22 info9 rfl (by decide) (by omega) u8000 x8000_1 t10 _ _ _ (fun k_=>some k_ ≠ (.slice Ao51 t10.length co51:Value).ownBlock) (fun _=>False) rfl rfl ?aO ?aR (fun _ _ h=>h) (fun _ h=>h.elim) ?aF ?aB ?aS ?aL ?_;(case aR=>repeat (first|exact (Kd.R_reads' HO_7.out).2.2|(with_reducible refine Kd.C_alloc ?_ _)|(with_reducible refine Kd.C_drewN ?_ _)|(with_reducible refine Kd.C_drew ?_)));(case aB=>exact (bw_ HB));(case aF=>exact (fun k_ hk=>Kd.fresh' (lt_ HO_7) k_ hk));(case aO=>exact (kr_ HO_8000.out));(case aS=>exact (sz_ HB));(case aL=>have:=LMc30.out;omega);intro v17 w50 ho hb hg hat;rw [← Ny16.out] at ho;replace HO_7:=am_ (Kd.R_after (ok:=(fun _=>True)) (kr_ (Kd.R_mono HO_7.out (fun _ hk=>⟨trivial,hk⟩))) hg hat);replace BK1:=kg_ BK1 HO_8000 hg;replace BK7:=kg_ BK7 HO_8000 hg;replace BK15:=kg_ BK15 HO_8000 hg;replace HB:=am_ hb;have HO18:=am_ ho;clear HO_8000;clear ho hb hg hat;obtain ⟨Ao52,co52,eo52⟩:=Kd.R_slice HO18.out;subst eo52;have hz53:=cz3_ BK7;have hnb54:=NB15_1.out;have hnc54:=NB1_15.out;have hz55:=cz2_ BK15))
        obtain ⟨w56,hw_⟩:∃ w_:World,w_=(((w50.setCell ⟨gb7,0,none⟩ (.slice Ao52 y16.length co52)).setCell ⟨gb7,1,none⟩ (.int .i64 t8)).setCell ⟨gb7,2,none⟩ (.string t9)):=⟨_,rfl⟩
        replace HO_7:Aside0 (Kd.R Kd.string 9 w56 w.heap.size (fun k_=>some k_ ≠ (.slice Ao52 y16.length co52:Value).ownBlock) (.slice Ao51 t10.length co51) t10):=⟨by rw [hw_];exact kr_ (Kd.R_mono (Kd.R_far (p:=⟨gb7,2,none⟩) (Kd.R_far (p:=⟨gb7,1,none⟩) (Kd.R_far (p:=⟨gb7,0,none⟩) (Kd.R_types HO_7.out BK7.out (by decide)) (fun _ hk=>hk.2) (.slice Ao52 y16.length co52)) (fun _ hk=>hk.2) (.int .i64 t8)) (fun _ hk=>hk.2) (.string t9)) (fun _ hk=>hk.1.2))⟩
        replace HO18:Aside0 (Kd.R Kd.string 9 w56 w.heap.size (fun k_=>some k_ ≠ (.slice Ao51 t10.length co51:Value).ownBlock) (.slice Ao52 y16.length co52) y16):=⟨by rw [hw_];exact kfm_ HO18 BK7⟩
        replace BK1:Aside0 (w56.heap[gb1]?=some (.cells #[.slice none 0 0,.int .i64 x2001_1,.string x2002_1] 39 (0,0))):=⟨by rw [hw_];exact kq_ BK1⟩
        replace BK7:Aside0 (w56.heap[gb7]?=some (.cells #[.slice Ao52 y16.length co52,.int .i64 t8,.string t9] 39 (0,0))):=⟨by rw [hw_];exact kq_ BK7⟩
        replace BK15:Aside0 (w56.heap[gb15]?=some (.cells #[.int .i64 t8,.string t9] 37 (0,0))):=⟨by rw [hw_];exact kq_ BK15⟩
        replace HB:Aside0 (Below w.heap.size w w56):=⟨by rw [hw_];exact bw_ HB⟩
        rw [← hw_]
        clear hw_
        replace HO18:=am_ (Kd.R_drew HO18.out)
        replace BK1:=bd_ BK1
        replace BK7:=bd_ BK7
        replace BK15:=bd_ BK15
        replace HB:=hd_ HB
        refine start_ (n:=5) (S:=fun w'=>w'.cell? ⟨gb15,0,none⟩=some (.int .i64 t8)∧w'.cell? ⟨gb15,1,none⟩=some (.string t9)∧w'.cell? ⟨gb7,0,none⟩=some (.slice Ao52 y16.length co52)∧w'.cell? ⟨gb7,1,none⟩=some (.int .i64 t8)∧w'.cell? ⟨gb7,2,none⟩=some (.string t9)) (ds:=[]) (lz_ 5 0) (by kernel_rfl) rfl rfl ⟨bc0_ BK15.out,bc1_ BK15.out,bc0_ BK7.out,bc1_ BK7.out,bc2_ BK7.out⟩ (fun hHeld=>?_)
        generalize w56.drew=w57 at HO_7 HO18 BK1 BK7 BK15 HB hHeld ⊢
        refine pk_ 1 44 2 ?_
        refine tk_ 0 43 3 ?_
        refine tk_ 2 45 7 ?_
        refine one_ (i:=3) (N:=some 46) (lz_ 5 15) rfl rfl (by kernel_rfl) (by decide) (fun K hK=>?_)
        refine gf_ Tryz.func110 (spec_HeadOf.calls kj10 _ _ y16 t19 t20 _ (ch_ HO18) (cl_ HO18) A31.out) ?_
        rintro e w58 ⟨rfl,hb⟩
        refine ⟨_,rfl,?_⟩
        replace HO18:=rb_ HO18 hb
        replace BK1:=kl_ BK1 hb
        replace BK7:=kl_ BK7 hb
        replace BK15:=kl_ BK15 hb
        replace HB:=ss_ HB hb
        clear hb
        refine hK.out _ _ ⟨bc0_ BK15.out,bc1_ BK15.out,bc0_ BK7.out,bc1_ BK7.out,bc2_ BK7.out⟩ (fun hHeld=>?_)
        clear hK K
        refine no_ 46 ?_
        refine pk_ 4 47 31 ?_
        refine done_ (by kernel_rfl) ?_
        try go_wp2
        go_roundg kj10
        case measure => have:=HK1.out;have:=HJ10.out;omega
        case rel => exact ⟨(t13),(x2001_1),(x2002_1),(y16),(t8),(t9),(.slice Ao52 y16.length co52),e1_,H',⟨by have:=HK1.out;have:=HJ10.out;omega⟩,⟨km_ HO18⟩,⟨kb_ BK1.out⟩,⟨kb_ BK7.out⟩,⟨bw_ HB⟩⟩
   ·replace H:=so4_ H;obtain ⟨rfl,rfl,rfl,rfl⟩:=H
    have hnb59:=NB7_1.out
    have hnc59:=NB1_7.out
    have hz60:=cz3_ BK7
    obtain ⟨Ao61,co61,eo61⟩:=Kd.R_slice HO_8000.out
    subst eo61
    have hz62:=cz3_ BK1
    go_wp2
    refine bodyPost_ret (rct_ gb1 39 #[.slice Ao61 x8000_1.length co61,.int .i64 x8001_1,.string x8002_1] BK1 Tryz.underlying39) rfl ?_
    exact ⟨_,e2_,kfm_ HO_8000 BK1,bw_ HB⟩
end
def spec_StoreOk.j0:Nat->Bool->List ByteArray->Int->ByteArray->List Int->Int->Option (Bool)
 | 0,_,_,_,_,_,_=>none
 | k+1,x23,x2000,x2001,x2002,x2003,x2004=>if x23=true then (some false) else ((spec_l12Replay.f k x2003).bind fun bt4=>(if bt4.2.2.2=true then ((spec_l8Same.f k bt4.1 x2000).bind fun t11=>(some t11)) else (some false)))
def spec_StoreOk.f (k:Nat) (l0_0:List ByteArray) (a0_1:Int) (a0_2:ByteArray) (l0_3:List Int) (a0_4:Int):Option (Bool):=(spec_LogOk.f k l0_0 a0_1 a0_2).bind fun t602=>(if t602=true then (if (l0_3.length:Int) > 60000 then (spec_StoreOk.j0 k true l0_0 a0_1 a0_2 l0_3 a0_4) else ((spec_l1In.f a0_4 0 (l0_3.length:Int)).bind fun t3=>(spec_StoreOk.j0 k (!t3) l0_0 a0_1 a0_2 l0_3 a0_4))) else (spec_StoreOk.j0 k true l0_0 a0_1 a0_2 l0_3 a0_4))
theorem spec_StoreOk.calls (k:Nat) (A0_0:Option Addr) (c0_0:Nat) (l0_0:List ByteArray) (a0_1:Int) (a0_2:ByteArray) (A0_3:Option Addr) (c0_3:Nat) (l0_3:List Int) (a0_4:Int) (r:Bool) (w:World) (hr0_0:Kd.C Kd.string w A0_0 l0_0.length l0_0) (hc0_0:l0_0.length≤c0_0) (hr0_3:Kd.C (Kd.int .u8) w A0_3 l0_3.length l0_3) (hc0_3:l0_3.length≤c0_3) (h:spec_StoreOk.f k l0_0 a0_1 a0_2 l0_3 a0_4=some r) :
  Calls Tryz.prog 73 #[.agg #[.slice A0_0 l0_0.length c0_0,.int .i64 a0_1,.string a0_2,.slice A0_3 l0_3.length c0_3,.int .i64 a0_4]] w fun e w'=>e = .returned (.bool r)∧Below w.heap.size w w':=by
 have hu41:=Tryz.underlying41
 have hu39:=Tryz.underlying39
 have HR0_0:=am_ hr0_0
 have HC0_0:=am_ hc0_0
 clear hr0_0 hc0_0
 have HR0_3:=am_ hr0_3
 have HC0_3:=am_ hc0_3
 clear hr0_3 hc0_3
 have HB:=h0_ w
 have H:((spec_LogOk.f k l0_0 a0_1 a0_2).bind fun t602=>(if t602=true then (if (l0_3.length:Int) > 60000 then (spec_StoreOk.j0 k true l0_0 a0_1 a0_2 l0_3 a0_4) else ((spec_l1In.f a0_4 0 (l0_3.length:Int)).bind fun t3=>(spec_StoreOk.j0 k (!t3) l0_0 a0_1 a0_2 l0_3 a0_4))) else (spec_StoreOk.j0 k true l0_0 a0_1 a0_2 l0_3 a0_4)))=some r:=h
 clear h
 have HC2:=am_ H
 clear H
 go_enter Tryz.func73,Tryz.ntmps73
 go_upto_region 1 with (first|((with_reducible refine gd_ 1 ?_);(try (refine gate_guard (by rfl) ?_;dsimp only));refine bx_ 1 41 #[.slice A0_0 l0_0.length c0_0,.int .i64 a0_1,.string a0_2,.slice A0_3 l0_3.length c0_3,.int .i64 a0_4] (hx_ HB ?_);clear HB;intro gb1 w3 BK1 GW1 HB;have GE1:=GW1))
 (try simp only [Act.put,List.setIfInBounds_toArray,List.set_cons_zero,List.set_cons_succ])
 go_cut [23] (fun v23 wc=>∃ (kq:Nat) (x23_1:Bool),v23 = .bool x23_1∧Aside0 (spec_StoreOk.j0 kq x23_1 l0_0 a0_1 a0_2 l0_3 a0_4=some r)∧Aside0 (kq≤k)∧Aside0 (wc.heap[gb1]?=some (.cells #[(.slice A0_0 l0_0.length c0_0),.int .i64 a0_1,.string a0_2,(.slice A0_3 l0_3.length c0_3),.int .i64 a0_4] 41 (0,0)))∧Aside0 (Below w.heap.size w wc))
 case first =>
  have H:=HC2.out
  clear HC2
  replace H:=bi_ H;obtain ⟨t602,A4,H⟩:=H
  replace H:=itb_ H;obtain ⟨rfl,H⟩|⟨rfl,H⟩:=H
  ·replace H:=it_ H;obtain ⟨c6,H⟩|⟨c6,H⟩:=H
   ·have c6b0:decide (60000 < (l0_3.length:Int))=true:=decide_eq_true c6
    have c6b1:decide (60000 < l0_3.length)=true:=decide_eq_true (by omega)
    clear c6
    (first | rw [c6b0]|(simp only [i64_w,i32_w];rw [c6b0])|rw [c6b1]|skip)
    have H':=am_ H
    clear H
    have hz7:=cz5_ BK1
    go_wp2_with (first|((with_reducible refine gq_ 107 7 ?_);refine gc_ 7 Tryz.func107 (spec_LogOk.calls k _ _ l0_0 a0_1 a0_2 true _ (cb_ HR0_0 HB) HC0_0.out A4.out) ?_;rintro e w8 ⟨rfl,hb⟩;refine ⟨_,rfl,?_⟩;replace BK1:=kl_ BK1 hb;replace HB:=ss_ HB hb;clear hb;have hz9:=cz5_ BK1))
    go_meet
    case rel => exact ⟨_,(true),e1_,H',⟨le_⟩,⟨kb_ BK1.out⟩,⟨bw_ HB⟩⟩
   ·have c6b0:decide (60000 < (l0_3.length:Int))=false:=decide_eq_false c6
    have c6b1:decide (60000 < l0_3.length)=false:=decide_eq_false (by omega)
    clear c6
    (first | rw [c6b0]|(simp only [i64_w,i32_w];rw [c6b0])|rw [c6b1]|skip)
    replace H:=bi_ H;obtain ⟨t3,A10,H⟩:=H
    have H':=am_ H
    clear H
    have hz11:=cz5_ BK1
    go_wp2_with (first|((with_reducible refine gq_ 107 7 ?_);refine gc_ 7 Tryz.func107 (spec_LogOk.calls k _ _ l0_0 a0_1 a0_2 true _ (cb_ HR0_0 HB) HC0_0.out A4.out) ?_;rintro e w12 ⟨rfl,hb⟩;refine ⟨_,rfl,?_⟩;replace BK1:=kl_ BK1 hb;replace HB:=ss_ HB hb;clear hb;have hz13:=cz5_ BK1)|(go_at_call 72;(with_reducible refine (spec_l1In.calls a0_4 0 (l0_3.length:Int) t3 _ A10.out).mono ?_);rintro e w' ⟨rfl,⟨nd,rfl⟩⟩))
    go_meet
    case rel => exact ⟨_,(!t3),e1_,H',⟨le_⟩,⟨kb_ BK1.out⟩,⟨bw_ HB⟩⟩
  ·have H':=am_ H
   clear H
   have hz14:=cz5_ BK1
   go_wp2_with (first|((with_reducible refine gq_ 107 7 ?_);refine gc_ 7 Tryz.func107 (spec_LogOk.calls k _ _ l0_0 a0_1 a0_2 false _ (cb_ HR0_0 HB) HC0_0.out A4.out) ?_;rintro e w15 ⟨rfl,hb⟩;refine ⟨_,rfl,?_⟩;replace BK1:=kl_ BK1 hb;replace HB:=ss_ HB hb;clear hb))
   go_meet
   case rel => exact ⟨_,(true),e1_,H',⟨le_⟩,⟨kb_ BK1.out⟩,⟨bw_ HB⟩⟩
 case rest =>
  clear HC2
  obtain ⟨kq,x23_1,rfl,HA,HJ1,BK1,HB⟩:=hcut
  cases kq with
  | zero=>exact absurd HA.out (by simp [spec_StoreOk.j0])
  | succ kj1 =>
   have H:=HA.out
   clear HA
   simp only [spec_StoreOk.j0] at H
   replace H:=itb_ H;obtain ⟨rfl,H⟩|⟨rfl,H⟩:=H
   ·obtain rfl:=Option.some.inj H
    go_wp2
    go_ret
    exact ⟨e2_,bw_ HB⟩
   ·replace H:=bi_ H;obtain ⟨⟨t4,t7,t8,t9⟩,A17,H⟩:=H
    dsimp only at H
    replace H:=itb_ H;obtain ⟨rfl,H⟩|⟨rfl,H⟩:=H
    ·replace H:=bi_ H;obtain ⟨t11,A19,H⟩:=H
     obtain rfl:=Option.some.inj H
     have hz20:=cz5_ BK1
     go_wp2_with (first|((with_reducible refine gq_ 108 27 ?_);refine gc_ 27 Tryz.func108 (spec_l12Replay.calls kj1 _ _ l0_3 t4 t7 t8 true _ (cb_ HR0_3 HB) HC0_3.out A17.out) ?_;rintro e w21 ⟨v5,rfl,ho0,hb⟩;refine ⟨_,rfl,?_⟩;have HO6:=rlo_ ho0 HB;replace BK1:=kl_ BK1 hb;replace HB:=ss_ HB hb;clear hb ho0)|((with_reducible refine gd_ 3 ?_);(try (refine gate_guard (by rfl) ?_;dsimp only));refine x39_ 3 ?_;intro gb10 hg w22 hbox hb;replace HO6:=rb_ HO6 hb;have BK10:=am_ hbox;have GW10:=gg_ hg HB;have GE10:=GW10;replace HB:=ss_ HB hb;have NB1_10:=nla_ hg BK1;have NB10_1:=nga_ hg BK1;replace BK1:=kl_ BK1 hb;clear hb hbox hg;obtain ⟨Ao23,co23,eo23⟩:=Kd.R_slice HO6.out;subst eo23;have hnb24:=NB10_1.out;have hnc24:=NB1_10.out;have hz25:=cz3_ BK10;have hz26:=cz5_ BK1)|(go_at_call 109;(with_reducible refine (spec_l8Same.calls kj1 _ _ t4 _ _ l0_0 t11 _ ?side1 ?side2 ?side3 ?side4 A19.out).mono ?_);(case side1=>exact chf_ HO6 BK10);(case side2=>exact (cl_ HO6));(case side3=>exact Kd.C_below HR0_0.out (bw_ HB));(case side4=>exact HC0_0.out);rintro e w' ⟨rfl,⟨nd,rfl⟩⟩))
     go_ret
     exact ⟨e2_,bw_ HB⟩
    ·obtain rfl:=Option.some.inj H
     have hz27:=cz5_ BK1
     go_wp2_with (first|((with_reducible refine gq_ 108 27 ?_);refine gc_ 27 Tryz.func108 (spec_l12Replay.calls kj1 _ _ l0_3 t4 t7 t8 false _ (cb_ HR0_3 HB) HC0_3.out A17.out) ?_;rintro e w28 ⟨v5,rfl,ho0,hb⟩;refine ⟨_,rfl,?_⟩;have HO6:=rlo_ ho0 HB;replace BK1:=kl_ BK1 hb;replace HB:=ss_ HB hb;clear hb ho0)|((with_reducible refine gd_ 3 ?_);(try (refine gate_guard (by rfl) ?_;dsimp only));refine x39_ 3 ?_;intro gb10 hg w29 hbox hb;replace HO6:=rb_ HO6 hb;have BK10:=am_ hbox;have GW10:=gg_ hg HB;have GE10:=GW10;replace HB:=ss_ HB hb;have NB1_10:=nla_ hg BK1;have NB10_1:=nga_ hg BK1;replace BK1:=kl_ BK1 hb;clear hb hbox hg;obtain ⟨Ao30,co30,eo30⟩:=Kd.R_slice HO6.out;subst eo30;have hnb31:=NB10_1.out;have hnc31:=NB1_10.out;have hz32:=cz3_ BK10))
     go_ret
     exact ⟨e2_,bw_ HB⟩
def spec_l12Put.f (k:Nat) (a0_0:Int) (a0_1:ByteArray) (l1:List ByteArray):Option (List Int):=(spec_PutNum.f k (([]:List Int)) a0_0).bind fun t5=>((spec_PutText.f k t5 a0_1).bind fun t8=>((spec_PutTexts.f k t8 l1).bind fun t11=>((spec_PutNum.f k (([]:List Int)) (t11.length:Int)).bind fun t17=>(if t17.length+t11.length < 140737488355328 then ((some (t17 ++ t11:List Int)).bind fun y20=>((spec_Digest.f k t11).bind fun t23=>(if 0≤4 then (if 4≤(t23.size:Int) then (if y20.length+(t23.extract 0 4).size < 140737488355328 then (some (y20 ++ bytesOf (t23.extract 0 4))) else (none)) else (none)) else (none)))) else (none)))))
def spec_l12Put.T1:Bool × List (List Nat × List Nat):=(true,[([],[]),([],[]),([1],[1]),([0,2],[0,2]),([],[]),([4],[4]),([3,5,3],[3,5]),([],[]),([6,7,6],[6,7]),([8,8,0,1,2,3,4,5,6,7,8],[8])])
def spec_l12Put.B1:List Nat:=[0,0,2,7,0,16,63,0,255,511]
theorem spec_l12Put.tab1:rtab .any (opsOf Tryz.f151 1)=spec_l12Put.T1:=by kernel_rfl
theorem spec_l12Put.bits1:waitsOk spec_l12Put.T1.2 spec_l12Put.B1=true:=by kernel_rfl
theorem spec_l12Put.calls (k:Nat) (a0_0:Int) (a0_1:ByteArray) (A1:Option Addr) (c1:Nat) (l1:List ByteArray) (r:List Int) (w:World) (hr1:Kd.C Kd.string w A1 l1.length l1) (hc1:l1.length≤c1) (h:spec_l12Put.f k a0_0 a0_1 l1=some r) :
  Calls Tryz.prog 151 #[.agg #[.int .i64 a0_0,.string a0_1],.slice A1 l1.length c1] w fun e w'=>∃ v0_:Value,e = .returned (v0_)∧Kd.R (Kd.int .u8) 5 w' w.heap.size (fun _=>True) v0_ r∧Below w.heap.size w w':=by
 have hu37:=Tryz.underlying37
 have HR1:=am_ hr1
 have HC1:=am_ hc1
 clear hr1 hc1
 have HB:=h0_ w
 have H:((spec_PutNum.f k (([]:List Int)) a0_0).bind fun t5=>((spec_PutText.f k t5 a0_1).bind fun t8=>((spec_PutTexts.f k t8 l1).bind fun t11=>((spec_PutNum.f k (([]:List Int)) (t11.length:Int)).bind fun t17=>(if t17.length+t11.length < 140737488355328 then ((some (t17 ++ t11:List Int)).bind fun y20=>((spec_Digest.f k t11).bind fun t23=>(if 0≤4 then (if 4≤(t23.size:Int) then (if y20.length+(t23.extract 0 4).size < 140737488355328 then (some (y20 ++ bytesOf (t23.extract 0 4))) else (none)) else (none)) else (none)))) else (none))))))=some r:=h
 clear h
 obtain ⟨y602,hy2⟩:∃ y_:List Int,y_=(([]:List Int)):=⟨_,rfl⟩
 replace H:((spec_PutNum.f k y602 a0_0).bind fun t5=>((spec_PutText.f k t5 a0_1).bind fun t8=>((spec_PutTexts.f k t8 l1).bind fun t11=>((spec_PutNum.f k (([]:List Int)) (t11.length:Int)).bind fun t17=>(if t17.length+t11.length < 140737488355328 then ((some (t17 ++ t11:List Int)).bind fun y20=>((spec_Digest.f k t11).bind fun t23=>(if 0≤4 then (if 4≤(t23.size:Int) then (if y20.length+(t23.extract 0 4).size < 140737488355328 then (some (y20 ++ bytesOf (t23.extract 0 4))) else (none)) else (none)) else (none)))) else (none))))))=some r:=yh_ hy2 H
 have Ny2:=am_ hy2
 clear hy2
 replace H:=bi_ H;obtain ⟨t5,A3,H⟩:=H
 replace H:=bi_ H;obtain ⟨t8,A4,H⟩:=H
 replace H:=bi_ H;obtain ⟨t11,A5,H⟩:=H
 obtain ⟨y14,hy14⟩:∃ y_:List Int,y_=(([]:List Int)):=⟨_,rfl⟩
 replace H:((spec_PutNum.f k y14 (t11.length:Int)).bind fun t17=>(if t17.length+t11.length < 140737488355328 then ((some (t17 ++ t11:List Int)).bind fun y20=>((spec_Digest.f k t11).bind fun t23=>(if 0≤4 then (if 4≤(t23.size:Int) then (if y20.length+(t23.extract 0 4).size < 140737488355328 then (some (y20 ++ bytesOf (t23.extract 0 4))) else (none)) else (none)) else (none)))) else (none)))=some r:=yh_ hy14 H
 have Ny14:=am_ hy14
 clear hy14
 replace H:=bi_ H;obtain ⟨t17,A6,H⟩:=H
 replace H:=ip_ H;obtain ⟨c7,H⟩:=H
 have LMc7:=am_ c7
 clear c7
 obtain ⟨y20,Ny20,H⟩:=sb_ (t17 ++ t11) H
 replace H:=bi_ H;obtain ⟨t23,A8,H⟩:=H
 replace H:=ip_ H;obtain ⟨c9,H⟩:=H
 have c9b0:=eq_true c9
 have c9b1:=decide_eq_true c9
 clear c9
 replace H:=ip_ H;obtain ⟨c10,H⟩:=H
 have c10b0:=eq_true c10
 have c10b1:=decide_eq_true c10
 clear c10
 replace H:=ip_ H;obtain ⟨c11,H⟩:=H
 have LMc11:=am_ c11
 clear c11
 obtain ⟨y24,hy24⟩:∃ y_:List Int,y_=(y20 ++ bytesOf (t23.extract 0 4)):=⟨_,rfl⟩
 replace H:(some y24)=some r:=yh_ hy24 H
 have Ny24:=am_ hy24
 clear hy24
 obtain rfl:=Option.some.inj H
 go_enter Tryz.func151,Tryz.ntmps151
 try go_wp2_with (first|((with_reducible refine gd_ 2 ?_);refine bx_ 2 37 #[.int .i64 a0_0,.string a0_1] (hx_ HB ?_);clear HB;intro gb1 w12 BK1 GW1 HB;have GE1:=GW1))
 replace BK1:=bd_ BK1
 replace HB:=hd_ HB
 refine sw_ 10 (fun w'=>w'.cell? ⟨gb1,0,none⟩=some (.int .i64 a0_0)∧w'.cell? ⟨gb1,1,none⟩=some (.string a0_1)) [] spec_l12Put.tab1 spec_l12Put.bits1 ⟨bc0_ BK1.out,bc1_ BK1.out⟩ (fun hHeld HT_ HW_=>?_)
 generalize w12.drew=w13 at BK1 HB hHeld ⊢
 refine pt_ 1 8 2 ?_
 refine pt_ 4 11 18 ?_
 refine pt_ 7 14 146 ?_
 refine tt_ 2 9 150 ?_
 refine tt_ 5 12 182 ?_
 refine oz_ 0 7 10 183 (fun K hK=>?_)
 refine Kd.R_lit_step (Kd.int .u8) _ 5 ?hg (N:=7) ?hd (xs:=([]:List Int)) (inner:=[]) (ok:=fun _=>True) (okp:=fun _=>True) ?hr ?hp (fun _ hk=>hk) trivial (Below.refl _ _) (Nat.le_refl _) (by simp) ?_;(case hd=>rfl);(case hg=>rfl);(case hr=>first|(go_simp;done)|(go_simp;rfl));(case hp=>exact (Reps.none _ _))
 intro v3 w14 ho15 hb hg_ hnew_
 clear hg_ hnew_
 (first | rw [← Ny2.out] at ho15|(simp only [Int.reduceToNat] at ho15;rw [← Ny2.out] at ho15))
 have HO4:=rlo_ ho15 HB
 replace BK1:=kl_ BK1 hb
 replace HB:=ss_ HB hb
 clear hb ho15
 obtain ⟨Ao16,co16,eo16⟩:=Kd.R_slice HO4.out
 subst eo16
 refine hK.out _ _ ⟨bc0_ BK1.out,bc1_ BK1.out⟩ (fun hHeld=>?_)
 clear hK K
 refine no_ 7 ?_
 refine oz_ 3 10 10 191 (fun K hK=>?_)
 refine gf_ Tryz.func168 (spec_PutNum.calls k _ _ y602 a0_0 t5 _ (ch_ HO4) (cl_ HO4) A3.out) ?_
 rintro e w17 ⟨v6,rfl,ho0,hb⟩
 refine ⟨_,rfl,?_⟩
 have HO7:=am_ (Kd.R_lower (Kd.R_new' ho0 (lt_ HO4)) (sz_ HB))
 replace HO4:=re_ HO4 ho0 hb
 replace BK1:=kl_ BK1 hb
 replace HB:=ss_ HB hb
 clear hb ho0
 obtain ⟨Ao18,co18,eo18⟩:=Kd.R_slice HO7.out
 subst eo18
 refine hK.out _ _ ⟨bc0_ BK1.out,bc1_ BK1.out⟩ (fun hHeld=>?_)
 clear hK K
 refine no_ 10 ?_
 refine oz_ 6 13 10 255 (fun K hK=>?_)
 refine gf_ Tryz.func167 (spec_PutText.calls k _ _ t5 a0_1 t8 _ (ch_ HO7) (cl_ HO7) A4.out) ?_
 rintro e w19 ⟨v9,rfl,ho0,hb⟩
 refine ⟨_,rfl,?_⟩
 have HO10:=am_ (Kd.R_lower (Kd.R_new' (Kd.R_new' ho0 (lt_ HO4)) (lt_ HO7)) (sz_ HB))
 replace HO4:=re_ HO4 ho0 hb
 replace HO7:=re_ HO7 ho0 hb
 replace BK1:=kl_ BK1 hb
 replace HB:=ss_ HB hb
 clear hb ho0
 obtain ⟨Ao20,co20,eo20⟩:=Kd.R_slice HO10.out
 subst eo20
 refine hK.out _ _ ⟨bc0_ BK1.out,bc1_ BK1.out⟩ (fun hHeld=>?_)
 clear hK K
 refine no_ 13 ?_
 refine oz_ 8 15 10 511 (fun K hK=>?_)
 refine gf_ Tryz.func166 (spec_PutTexts.calls k _ _ t8 _ _ l1 t11 _ (ch_ HO10) (cl_ HO10) (cb_ HR1 HB) HC1.out A5.out) ?_
 rintro e w21 ⟨v12,rfl,ho0,hb⟩
 refine ⟨_,rfl,?_⟩
 have HO13:=am_ (Kd.R_lower (Kd.R_new' (Kd.R_new' (Kd.R_new' ho0 (lt_ HO4)) (lt_ HO7)) (lt_ HO10)) (sz_ HB))
 replace HO4:=re_ HO4 ho0 hb
 replace HO7:=re_ HO7 ho0 hb
 replace HO10:=re_ HO10 ho0 hb
 replace BK1:=kl_ BK1 hb
 replace HB:=ss_ HB hb
 clear hb ho0
 refine hK.out _ _ ⟨bc0_ BK1.out,bc1_ BK1.out⟩ (fun hHeld=>?_)
 clear hK K
 refine no_ 15 ?_
 refine pt_ 9 5 1023 ?_
 refine dn_ ?_
 try go_wp2_with (first|((with_reducible refine gd_ 16 ?_);refine rl_ (Kd.int .u8) 5 16 ([]:List Int) [] ?_;intro v15 w22 ho23 hb hg_ hnew_;clear hg_ hnew_;(first|rw [← Ny14.out] at ho23|(simp only [Int.reduceToNat] at ho23;rw [← Ny14.out] at ho23));have HO16:=am_ (Kd.R_lower (Kd.R_new' (Kd.R_new' (Kd.R_new' (Kd.R_new' ho23 (lt_ HO4)) (lt_ HO7)) (lt_ HO10)) (lt_ HO13)) (sz_ HB));replace HO4:=re_ HO4 ho23 hb;replace HO7:=re_ HO7 ho23 hb;replace HO10:=re_ HO10 ho23 hb;replace HO13:=re_ HO13 ho23 hb;replace HB:=ss_ HB hb;clear hb ho23;obtain ⟨Ao24,co24,eo24⟩:=Kd.R_slice HO13.out;subst eo24;obtain ⟨Ao25,co25,eo25⟩:=Kd.R_slice HO16.out;subst eo25)|((with_reducible refine gq_ 168 19 ?_);refine gc_ 19 Tryz.func168 (spec_PutNum.calls k _ _ y14 (t11.length:Int) t17 _ (ch_ HO16) (cl_ HO16) A6.out) ?_;rintro e w26 ⟨v18,rfl,ho0,hb⟩;refine ⟨_,rfl,?_⟩;have HO19:=am_ (Kd.R_lower (Kd.R_new' (Kd.R_new' (Kd.R_new' (Kd.R_new' (Kd.R_new' ho0 (lt_ HO4)) (lt_ HO7)) (lt_ HO10)) (lt_ HO13)) (lt_ HO16)) (sz_ HB));replace HO4:=re_ HO4 ho0 hb;replace HO7:=re_ HO7 ho0 hb;replace HO10:=re_ HO10 ho0 hb;replace HO13:=re_ HO13 ho0 hb;replace HO16:=re_ HO16 ho0 hb;replace HB:=ss_ HB hb;clear hb ho0)|((with_reducible refine gate_builtin (b:=.append) (xs:=#[.tmp 19,.tmp 20]) rfl ?_);at_builtin;refine Kd.R_append_rows (Kd.int .u8) (w0:=w) w.heap.size rfl (.tmp 19) (.tmp 20) 27 5 (.int .u8 0) 1 rfl Tryz.underlying27 info5 rfl (by decide) (by omega) v18 t17 t11 _ _ _ (fun k_=>some k_ ≠ (.slice Ao16 y602.length co16:Value).ownBlock∧some k_ ≠ (.slice Ao18 t5.length co18:Value).ownBlock∧some k_ ≠ (.slice Ao20 t8.length co20:Value).ownBlock∧some k_ ≠ (.slice Ao24 t11.length co24:Value).ownBlock∧some k_ ≠ (.slice Ao25 y14.length co25:Value).ownBlock) (fun _=>False) rfl rfl ?aO ?aR (fun _ _ h=>h) (fun _ h=>h.elim) ?aF ?aB ?aS ?aL ?_;(case aR=>repeat (first|exact (Kd.R_reads' HO13.out).2.2|(with_reducible refine Kd.C_alloc ?_ _)|(with_reducible refine Kd.C_drewN ?_ _)|(with_reducible refine Kd.C_drew ?_)));(case aB=>exact (bw_ HB));(case aF=>exact (fun k_ hk=>⟨Kd.fresh' (lt_ HO4) k_ hk,Kd.fresh' (lt_ HO7) k_ hk,Kd.fresh' (lt_ HO10) k_ hk,Kd.fresh' (lt_ HO13) k_ hk,Kd.fresh' (lt_ HO16) k_ hk⟩));(case aO=>exact (kr_ (Kd.R_mono HO19.out (fun _ hk=>⟨hk.1.1.1.1.2,⟨hk.1.1.1.2,⟨hk.1.1.2,⟨hk.1.2,hk.2⟩⟩⟩⟩))));(case aS=>exact (sz_ HB));(case aL=>have:=LMc7.out;omega);intro v21 w27 ho hb hg hat;rw [← Ny20.out] at ho;replace HO4:=am_ (Kd.R_after (ok:=(fun k_=>some k_ ≠ (.slice Ao18 t5.length co18:Value).ownBlock∧some k_ ≠ (.slice Ao20 t8.length co20:Value).ownBlock∧some k_ ≠ (.slice Ao24 t11.length co24:Value).ownBlock∧some k_ ≠ (.slice Ao25 y14.length co25:Value).ownBlock)) (kr_ (Kd.R_mono HO4.out (fun _ hk=>⟨⟨hk.1.1.1.1.2,⟨hk.1.1.1.2,⟨hk.1.1.2,hk.1.2⟩⟩⟩,hk.2⟩))) hg hat);replace HO7:=am_ (Kd.R_after (ok:=(fun k_=>some k_ ≠ (.slice Ao16 y602.length co16:Value).ownBlock∧some k_ ≠ (.slice Ao20 t8.length co20:Value).ownBlock∧some k_ ≠ (.slice Ao24 t11.length co24:Value).ownBlock∧some k_ ≠ (.slice Ao25 y14.length co25:Value).ownBlock)) (kr_ (Kd.R_mono HO7.out (fun _ hk=>⟨⟨hk.1.1.1.1.2,⟨hk.1.1.1.2,⟨hk.1.1.2,hk.1.2⟩⟩⟩,hk.2⟩))) hg hat);replace HO10:=am_ (Kd.R_after (ok:=(fun k_=>some k_ ≠ (.slice Ao16 y602.length co16:Value).ownBlock∧some k_ ≠ (.slice Ao18 t5.length co18:Value).ownBlock∧some k_ ≠ (.slice Ao24 t11.length co24:Value).ownBlock∧some k_ ≠ (.slice Ao25 y14.length co25:Value).ownBlock)) (kr_ (Kd.R_mono HO10.out (fun _ hk=>⟨⟨hk.1.1.1.1.2,⟨hk.1.1.1.2,⟨hk.1.1.2,hk.1.2⟩⟩⟩,hk.2⟩))) hg hat);replace HO13:=am_ (Kd.R_after (ok:=(fun k_=>some k_ ≠ (.slice Ao16 y602.length co16:Value).ownBlock∧some k_ ≠ (.slice Ao18 t5.length co18:Value).ownBlock∧some k_ ≠ (.slice Ao20 t8.length co20:Value).ownBlock∧some k_ ≠ (.slice Ao25 y14.length co25:Value).ownBlock)) (kr_ (Kd.R_mono HO13.out (fun _ hk=>⟨⟨hk.1.1.1.1.2,⟨hk.1.1.1.2,⟨hk.1.1.2,hk.1.2⟩⟩⟩,hk.2⟩))) hg hat);replace HO16:=am_ (Kd.R_after (ok:=(fun k_=>some k_ ≠ (.slice Ao16 y602.length co16:Value).ownBlock∧some k_ ≠ (.slice Ao18 t5.length co18:Value).ownBlock∧some k_ ≠ (.slice Ao20 t8.length co20:Value).ownBlock∧some k_ ≠ (.slice Ao24 t11.length co24:Value).ownBlock)) (kr_ (Kd.R_mono HO16.out (fun _ hk=>⟨⟨hk.1.1.1.1.2,⟨hk.1.1.1.2,⟨hk.1.1.2,hk.1.2⟩⟩⟩,hk.2⟩))) hg hat);replace HB:=am_ hb;have HO22:=am_ ho;clear HO19;clear ho hb hg hat)|((with_reducible refine gq_ 119 24 ?_);refine gc_ 24 Tryz.func119 (spec_Digest.calls k _ _ t11 t23 _ (ch_ HO13) (cl_ HO13) A8.out) ?_;rintro e w28 ⟨rfl,hb⟩;refine ⟨_,rfl,?_⟩;replace HO4:=rb_ HO4 hb;replace HO7:=rb_ HO7 hb;replace HO10:=rb_ HO10 hb;replace HO13:=rb_ HO13 hb;replace HO16:=rb_ HO16 hb;replace HO22:=rb_ HO22 hb;replace HB:=ss_ HB hb;clear hb)|(at_builtin;refine print_append_strR (w0:=w) w.heap.size rfl (.tmp 22) _ 27 9 5 rfl Tryz.underlying27 Tryz.underlying9 info5 v21 y20 (t23.extract 0 4) (fun k_=>some k_ ≠ (.slice Ao16 y602.length co16:Value).ownBlock∧some k_ ≠ (.slice Ao18 t5.length co18:Value).ownBlock∧some k_ ≠ (.slice Ao20 t8.length co20:Value).ownBlock∧some k_ ≠ (.slice Ao24 t11.length co24:Value).ownBlock∧some k_ ≠ (.slice Ao25 y14.length co25:Value).ownBlock) rfl rfl ?aF ?aO ?aB ?aS ?aL ?_;(case aB=>exact (bw_ HB));(case aF=>exact (fun k_ hk=>⟨Kd.fresh' (lt_ HO4) k_ hk,Kd.fresh' (lt_ HO7) k_ hk,Kd.fresh' (lt_ HO10) k_ hk,Kd.fresh' (lt_ HO13) k_ hk,Kd.fresh' (lt_ HO16) k_ hk⟩));(case aO=>exact (kr_ HO22.out));(case aS=>exact (sz_ HB));(case aL=>have:=LMc11.out;omega);intro v25 w29 ho hb hg hat;rw [← Ny24.out] at ho;replace HO4:=am_ (Kd.R_after (ok:=(fun k_=>some k_ ≠ (.slice Ao18 t5.length co18:Value).ownBlock∧some k_ ≠ (.slice Ao20 t8.length co20:Value).ownBlock∧some k_ ≠ (.slice Ao24 t11.length co24:Value).ownBlock∧some k_ ≠ (.slice Ao25 y14.length co25:Value).ownBlock)) (kr_ HO4.out) hg hat);replace HO7:=am_ (Kd.R_after (ok:=(fun k_=>some k_ ≠ (.slice Ao16 y602.length co16:Value).ownBlock∧some k_ ≠ (.slice Ao20 t8.length co20:Value).ownBlock∧some k_ ≠ (.slice Ao24 t11.length co24:Value).ownBlock∧some k_ ≠ (.slice Ao25 y14.length co25:Value).ownBlock)) (kr_ HO7.out) hg hat);replace HO10:=am_ (Kd.R_after (ok:=(fun k_=>some k_ ≠ (.slice Ao16 y602.length co16:Value).ownBlock∧some k_ ≠ (.slice Ao18 t5.length co18:Value).ownBlock∧some k_ ≠ (.slice Ao24 t11.length co24:Value).ownBlock∧some k_ ≠ (.slice Ao25 y14.length co25:Value).ownBlock)) (kr_ HO10.out) hg hat);replace HO13:=am_ (Kd.R_after (ok:=(fun k_=>some k_ ≠ (.slice Ao16 y602.length co16:Value).ownBlock∧some k_ ≠ (.slice Ao18 t5.length co18:Value).ownBlock∧some k_ ≠ (.slice Ao20 t8.length co20:Value).ownBlock∧some k_ ≠ (.slice Ao25 y14.length co25:Value).ownBlock)) (kr_ HO13.out) hg hat);replace HO16:=am_ (Kd.R_after (ok:=(fun k_=>some k_ ≠ (.slice Ao16 y602.length co16:Value).ownBlock∧some k_ ≠ (.slice Ao18 t5.length co18:Value).ownBlock∧some k_ ≠ (.slice Ao20 t8.length co20:Value).ownBlock∧some k_ ≠ (.slice Ao24 t11.length co24:Value).ownBlock)) (kr_ HO16.out) hg hat);replace HB:=am_ hb;have HO26:=am_ ho;clear HO22;clear ho hb hg hat))
 go_ret
 exact ⟨_,e2_,km_ HO26,bw_ HB⟩
section
attribute [local go_sem high] eqA37
def spec_IsSigned.l0:Nat->List (S37)->Int->Int->ByteArray->Option (Bool)
 | 0,_,_,_,_=>none
 | k+1,x0,x5,x2000,x2001=>if x5 < (x0.length:Int) then (if 0≤x5 then (if (((rd_T37 x0 x5).f0) == x2000 && ((((rd_T37 x0 x5).f1).toList) == x2001.toList))=true then (some true) else (spec_IsSigned.l0 k x0 (wrap64 (x5+1)) x2000 x2001)) else (none)) else (some false)
def spec_IsSigned.f (k:Nat) (l0:List (S37)) (a1_0:Int) (a1_1:ByteArray):Option (Bool):=spec_IsSigned.l0 k l0 0 a1_0 a1_1
theorem spec_IsSigned.calls (k:Nat) (A0:Option Addr) (c0:Nat) (l0:List (S37)) (a1_0:Int) (a1_1:ByteArray) (r:Bool) (w:World) (hr0:Kd.C k37 w A0 l0.length l0) (hc0:l0.length≤c0) (h:spec_IsSigned.f k l0 a1_0 a1_1=some r) :
  Calls Tryz.prog 111 #[.slice A0 l0.length c0,.agg #[.int .i64 a1_0,.string a1_1]] w fun e w'=>e = .returned (.bool r)∧Below w.heap.size w w':=by
 have hu37:=Tryz.underlying37
 have HR0:=am_ hr0
 have HC0:=am_ hc0
 clear hr0 hc0
 have HB:=h0_ w
 have H:(spec_IsSigned.l0 k l0 0 a1_0 a1_1)=some r:=h
 clear h
 have H':=am_ H
 clear H
 go_enter Tryz.func111,Tryz.ntmps111
 go_wp2_with (first|((with_reducible refine gd_ 3 ?_);refine bx_ 3 37 #[.int .i64 a1_0,.string a1_1] (hx_ HB ?_);clear HB;intro gb1 w3 BK1 GW1 HB;have GE1:=GW1))
 repeat (go_quiet (first|((with_reducible refine gd_ 3 ?_);refine bx_ 3 37 #[.int .i64 a1_0,.string a1_1] ?_;intro gb1 hg w3 hbox hb;have BK1:=am_ hbox;have GW1:=gg_ hg HB;have GE1:=gg_ hg HB;replace HB:=ss_ HB hb;clear hb hbox hg));try go_wp2_with (first|((with_reducible refine gd_ 3 ?_);refine bx_ 3 37 #[.int .i64 a1_0,.string a1_1] (hx_ HB ?_);clear HB;intro gb1 w3 BK1 GW1 HB;have GE1:=GW1)))
 go_loopg [5] k (fun kq v5 w'=>∃ (x5_1:Int),v5 = .int .i64 x5_1∧Aside0 (spec_IsSigned.l0 kq l0 x5_1 a1_0 a1_1=some r)∧Aside0 (kq≤k)∧Aside0 (w'.heap[gb1]?=some (.cells #[.int .i64 a1_0,.string a1_1] 37 (0,0)))∧Aside0 (Below w.heap.size w w'))
 case atStart => exact ⟨(0),e1_,H',⟨Nat.le_refl _⟩,⟨kb_ BK1.out⟩,⟨bw_ HB⟩⟩
 case round =>
  clear H'
  obtain ⟨x5_1,rfl,HA,HK1,BK1,HB⟩:=hrel
  cases gk with
  | zero=>exact absurd HA.out (by simp [spec_IsSigned.l0])
  | succ k1 =>
   have H:=HA.out
   clear HA
   simp only [spec_IsSigned.l0] at H
   replace H:=itd_ H;obtain ⟨c4b0,H⟩|⟨c4b0,H⟩:=H
   ·replace H:=ipd_ H;obtain ⟨c5b0,H⟩:=H
    replace H:=it_ H;obtain ⟨c6,H⟩|⟨c6,H⟩:=H
    ·have c6b0:(((rd_T37 l0 x5_1).f0) == a1_0 && ((((rd_T37 l0 x5_1).f1).toList) == a1_1.toList))=true:=c6
     (try (have c6b1:decide (((rd_T37 l0 x5_1).f0)=a1_0 && ((((rd_T37 l0 x5_1).f1).toList) == a1_1.toList))=true:=by simpa using c6))
     (try (have c6b2:(((rd_T37 l0 x5_1).f0) == a1_0 && ((((rd_T37 l0 x5_1).f1).toList) == a1_1.toList))=true:=by simpa using c6))
     clear c6
     obtain rfl:=Option.some.inj H
     have p602:0≤(x5_1:Int):=od_
     have q602:x5_1 < (l0.length:Int):=od_
     obtain ⟨ad2,e602,hx2_0,hx2_1⟩:=at_T37 HR0.out x5_1 p602 q602
     cases e602
     replace hx2_0:=cw_ HB hx2_0
     replace hx2_1:=cw_ HB hx2_1
     replace p602:=eq_true p602
     replace q602:=eq_true q602
     have hz7:=cz2_ BK1
     go_wp2
     repeat (go_quiet (fail);try go_wp2)
     go_ret
     exact ⟨e2_,bw_ HB⟩
    ·have c6b0:(((rd_T37 l0 x5_1).f0) == a1_0 && ((((rd_T37 l0 x5_1).f1).toList) == a1_1.toList))=false:=by simpa using c6
     (try (have c6b1:decide (((rd_T37 l0 x5_1).f0)=a1_0 && ((((rd_T37 l0 x5_1).f1).toList) == a1_1.toList))=false:=by simpa using c6))
     (try (have c6b2:(((rd_T37 l0 x5_1).f0) == a1_0 && ((((rd_T37 l0 x5_1).f1).toList) == a1_1.toList))=false:=by simpa using c6))
     (try (have c6b3:¬ (((rd_T37 l0 x5_1).f0)=a1_0 && ((((rd_T37 l0 x5_1).f1).toList) == a1_1.toList)):=by simpa using c6))
     clear c6
     have H':=am_ H
     clear H
     have p602:0≤(x5_1:Int):=od_
     have q602:x5_1 < (l0.length:Int):=od_
     obtain ⟨ad2,e602,hx2_0,hx2_1⟩:=at_T37 HR0.out x5_1 p602 q602
     cases e602
     replace hx2_0:=cw_ HB hx2_0
     replace hx2_1:=cw_ HB hx2_1
     replace p602:=eq_true p602
     replace q602:=eq_true q602
     have hz8:=cz2_ BK1
     go_wp2
     repeat (go_quiet (fail);try go_wp2)
     go_roundg k1
     case measure => have:=HK1.out;omega
     case rel => exact ⟨(wrap64 (x5_1+1)),e1_,H',⟨by have:=HK1.out;omega⟩,⟨kb_ BK1.out⟩,⟨bw_ HB⟩⟩
   ·obtain rfl:=Option.some.inj H
    go_wp2
    repeat (go_quiet (fail);try go_wp2)
    go_ret
    exact ⟨e2_,bw_ HB⟩
end
section
attribute [local go_sem high] eqA37
def impl_Head_152.l0:Nat->List (S37)->Int->Int->Int->ByteArray->Option (Int)
 | 0,_,_,_,_,_=>none
 | k+1,x0,x7,x8,x2000,x2001=>if x8 < x7 then (if 0≤x8 then (if x8 < (x0.length:Int) then (if (x2000 == ((rd_T37 x0 x8).f0) && (x2001.toList == (((rd_T37 x0 x8).f1).toList)))=true then (some x8) else (impl_Head_152.l0 k x0 x7 (wrap64 (x8+1)) x2000 x2001)) else (none)) else (none)) else (some (-1))
def impl_Head_152.f (k:Nat) (l0:List (S37)) (a1_0:Int) (a1_1:ByteArray):Option (Int):=impl_Head_152.l0 k l0 (l0.length:Int) 0 a1_0 a1_1
theorem impl_Head_152.calls (k:Nat) (A0:Option Addr) (c0:Nat) (l0:List (S37)) (a1_0:Int) (a1_1:ByteArray) (r:Int) (w:World) (hr0:Kd.C k37 w A0 l0.length l0) (hc0:l0.length≤c0) (h:impl_Head_152.f k l0 a1_0 a1_1=some r) :
  Calls Tryz.prog 152 #[.slice A0 l0.length c0,.agg #[.int .i64 a1_0,.string a1_1]] w fun e w'=>e = .returned (.int .i64 r)∧Below w.heap.size w w':=by
 have hu37:=Tryz.underlying37
 have HR0:=am_ hr0
 have HC0:=am_ hc0
 clear hr0 hc0
 have HB:=h0_ w
 have H:(impl_Head_152.l0 k l0 (l0.length:Int) 0 a1_0 a1_1)=some r:=h
 clear h
 have H':=am_ H
 clear H
 go_enter Tryz.func152,Tryz.ntmps152
 go_wp2_with (first|((with_reducible refine gd_ 3 ?_);refine bx_ 3 37 #[.int .i64 a1_0,.string a1_1] (hx_ HB ?_);clear HB;intro gb1 w3 BK1 GW1 HB;have GE1:=GW1))
 repeat (go_quiet (first|((with_reducible refine gd_ 3 ?_);refine bx_ 3 37 #[.int .i64 a1_0,.string a1_1] ?_;intro gb1 hg w3 hbox hb;have BK1:=am_ hbox;have GW1:=gg_ hg HB;have GE1:=gg_ hg HB;replace HB:=ss_ HB hb;clear hb hbox hg));try go_wp2_with (first|((with_reducible refine gd_ 3 ?_);refine bx_ 3 37 #[.int .i64 a1_0,.string a1_1] (hx_ HB ?_);clear HB;intro gb1 w3 BK1 GW1 HB;have GE1:=GW1)))
 go_loopg [8] k (fun kq v8 w'=>∃ (x8_1:Int),v8 = .int .i64 x8_1∧Aside0 (impl_Head_152.l0 kq l0 (l0.length:Int) x8_1 a1_0 a1_1=some r)∧Aside0 (kq≤k)∧Aside0 (w'.heap[gb1]?=some (.cells #[.int .i64 a1_0,.string a1_1] 37 (0,0)))∧Aside0 (Below w.heap.size w w'))
 case atStart => exact ⟨(0),e1_,H',⟨Nat.le_refl _⟩,⟨kb_ BK1.out⟩,⟨bw_ HB⟩⟩
 case round =>
  clear H'
  obtain ⟨x8_1,rfl,HA,HK1,BK1,HB⟩:=hrel
  cases gk with
  | zero=>exact absurd HA.out (by simp [impl_Head_152.l0])
  | succ k1 =>
   have H:=HA.out
   clear HA
   simp only [impl_Head_152.l0] at H
   replace H:=itd_ H;obtain ⟨c4b0,H⟩|⟨c4b0,H⟩:=H
   ·replace H:=ipd_ H;obtain ⟨c5b0,H⟩:=H
    replace H:=ipd_ H;obtain ⟨c6b0,H⟩:=H
    replace H:=it_ H;obtain ⟨c7,H⟩|⟨c7,H⟩:=H
    ·have c7b0:(a1_0 == ((rd_T37 l0 x8_1).f0) && (a1_1.toList == (((rd_T37 l0 x8_1).f1).toList)))=true:=c7
     (try (have c7b1:decide (a1_0=((rd_T37 l0 x8_1).f0) && (a1_1.toList == (((rd_T37 l0 x8_1).f1).toList)))=true:=by simpa using c7))
     (try (have c7b2:(a1_0 == ((rd_T37 l0 x8_1).f0) && (a1_1.toList == (((rd_T37 l0 x8_1).f1).toList)))=true:=by simpa using c7))
     clear c7
     obtain rfl:=Option.some.inj H
     have hz8:=cz2_ BK1
     have p602:0≤(x8_1:Int):=od_
     have q602:x8_1 < (l0.length:Int):=od_
     obtain ⟨ad2,e602,hx2_0,hx2_1⟩:=at_T37 HR0.out x8_1 p602 q602
     cases e602
     replace hx2_0:=cw_ HB hx2_0
     replace hx2_1:=cw_ HB hx2_1
     replace p602:=eq_true p602
     replace q602:=eq_true q602
     go_wp2
     repeat (go_quiet (fail);try go_wp2)
     go_ret
     exact ⟨e2_,bw_ HB⟩
    ·have c7b0:(a1_0 == ((rd_T37 l0 x8_1).f0) && (a1_1.toList == (((rd_T37 l0 x8_1).f1).toList)))=false:=by simpa using c7
     (try (have c7b1:decide (a1_0=((rd_T37 l0 x8_1).f0) && (a1_1.toList == (((rd_T37 l0 x8_1).f1).toList)))=false:=by simpa using c7))
     (try (have c7b2:(a1_0 == ((rd_T37 l0 x8_1).f0) && (a1_1.toList == (((rd_T37 l0 x8_1).f1).toList)))=false:=by simpa using c7))
     (try (have c7b3:¬ (a1_0=((rd_T37 l0 x8_1).f0) && (a1_1.toList == (((rd_T37 l0 x8_1).f1).toList))):=by simpa using c7))
     clear c7
     have H':=am_ H
     clear H
     have hz9:=cz2_ BK1
     have p602:0≤(x8_1:Int):=od_
     have q602:x8_1 < (l0.length:Int):=od_
     obtain ⟨ad2,e602,hx2_0,hx2_1⟩:=at_T37 HR0.out x8_1 p602 q602
     cases e602
     replace hx2_0:=cw_ HB hx2_0
     replace hx2_1:=cw_ HB hx2_1
     replace p602:=eq_true p602
     replace q602:=eq_true q602
     go_wp2
     repeat (go_quiet (fail);try go_wp2)
     go_roundg k1
     case measure => have:=HK1.out;omega
     case rel => exact ⟨(wrap64 (x8_1+1)),e1_,H',⟨by have:=HK1.out;omega⟩,⟨kb_ BK1.out⟩,⟨bw_ HB⟩⟩
   ·obtain rfl:=Option.some.inj H
    go_wp2
    repeat (go_quiet (fail);try go_wp2)
    go_ret
    exact ⟨e2_,bw_ HB⟩
end
def impl_Head_129.f (k:Nat) (l0:List (S37)) (a1_0:Int) (a1_1:ByteArray):Option (Bool):=(impl_Head_152.f k l0 a1_0 a1_1).bind fun t602=>(some (decide (t602 ≥ 0)))
theorem impl_Head_129.calls (k:Nat) (A0:Option Addr) (c0:Nat) (l0:List (S37)) (a1_0:Int) (a1_1:ByteArray) (r:Bool) (w:World) (hr0:Kd.C k37 w A0 l0.length l0) (hc0:l0.length≤c0) (h:impl_Head_129.f k l0 a1_0 a1_1=some r) :
  Calls Tryz.prog 129 #[.slice A0 l0.length c0,.agg #[.int .i64 a1_0,.string a1_1]] w fun e w'=>e = .returned (.bool r)∧Below w.heap.size w w':=by
 have hu37:=Tryz.underlying37
 have HR0:=am_ hr0
 have HC0:=am_ hc0
 clear hr0 hc0
 have HB:=h0_ w
 have H:((impl_Head_152.f k l0 a1_0 a1_1).bind fun t602=>(some (decide (t602 ≥ 0))))=some r:=h
 clear h
 replace H:=bi_ H;obtain ⟨t602,A3,H⟩:=H
 obtain rfl:=Option.some.inj H
 go_enter Tryz.func129,Tryz.ntmps129
 go_wp2_with (first|((with_reducible refine gd_ 3 ?_);refine bx_ 3 37 #[.int .i64 a1_0,.string a1_1] (hx_ HB ?_);clear HB;intro gb1 w4 BK1 GW1 HB;have GE1:=GW1;have hz5:=cz2_ BK1)|((with_reducible refine gq_ 152 7 ?_);refine gc_ 7 Tryz.func152 (impl_Head_152.calls k _ _ l0 a1_0 a1_1 t602 _ (cb_ HR0 HB) HC0.out A3.out) ?_;rintro e w6 ⟨rfl,hb⟩;refine ⟨_,rfl,?_⟩;replace BK1:=kl_ BK1 hb;replace HB:=ss_ HB hb;clear hb))
 go_ret
 exact ⟨e2_,bw_ HB⟩
def impl_IsSigned.f (k:Nat) (l0:List (S37)) (a1_0:Int) (a1_1:ByteArray):Option (Bool):=(impl_Head_129.f k l0 a1_0 a1_1).bind fun t602=>(some t602)
theorem impl_IsSigned.calls (k:Nat) (A0:Option Addr) (c0:Nat) (l0:List (S37)) (a1_0:Int) (a1_1:ByteArray) (r:Bool) (w:World) (hr0:Kd.C k37 w A0 l0.length l0) (hc0:l0.length≤c0) (h:impl_IsSigned.f k l0 a1_0 a1_1=some r) :
  Calls Tryz.prog 96 #[.slice A0 l0.length c0,.agg #[.int .i64 a1_0,.string a1_1]] w fun e w'=>e = .returned (.bool r)∧Below w.heap.size w w':=by
 have hu37:=Tryz.underlying37
 have HR0:=am_ hr0
 have HC0:=am_ hc0
 clear hr0 hc0
 have HB:=h0_ w
 have H:((impl_Head_129.f k l0 a1_0 a1_1).bind fun t602=>(some t602))=some r:=h
 clear h
 replace H:=bi_ H;obtain ⟨t602,A3,H⟩:=H
 obtain rfl:=Option.some.inj H
 go_enter Tryz.func96,Tryz.ntmps96
 go_wp2_with (first|((with_reducible refine gd_ 3 ?_);refine bx_ 3 37 #[.int .i64 a1_0,.string a1_1] (hx_ HB ?_);clear HB;intro gb1 w4 BK1 GW1 HB;have GE1:=GW1;have hz5:=cz2_ BK1)|((with_reducible refine gq_ 129 7 ?_);refine gc_ 7 Tryz.func129 (impl_Head_129.calls k _ _ l0 a1_0 a1_1 t602 _ (cb_ HR0 HB) HC0.out A3.out) ?_;rintro e w6 ⟨rfl,hb⟩;refine ⟨_,rfl,?_⟩;replace BK1:=kl_ BK1 hb;replace HB:=ss_ HB hb;clear hb))
 go_ret
 exact ⟨e2_,bw_ HB⟩
def slices_Grow_string_string.f (l0:List ByteArray) (a1:Int):Option (List ByteArray):=if l0.length=0∧1≤a1∧a1≤1000000000 then some [] else none
theorem slices_Grow_string_string.info:(Tryz.prog.info? 9).map (fun i=>(i.zero,i.size,i.bytes))=some (some (.string ⟨#[]⟩),1,16):=by kernel_rfl
def rowOf:Option Addr->Nat
 | none=>0
 | some _=>1
set_option maxHeartbeats 1000000 in
theorem slices_Grow_string_string.calls (A0:Option Addr) (c0:Nat) (l0:List ByteArray) (a1:Int) (r:List ByteArray) (w:World) (hr0:Kd.C Kd.string w A0 l0.length l0) (hc0:rowOf A0+c0≤0) (h:slices_Grow_string_string.f l0 a1=some r) :
  Calls Tryz.prog 172 #[.slice A0 l0.length c0,.int .i64 a1] w fun e w'=>∃ v0_:Value,e = .returned (v0_)∧Kd.R Kd.string 9 w' w.heap.size (fun _=>True) v0_ r∧Below w.heap.size w w':=by
 unfold slices_Grow_string_string.f at h
 by_cases hl:l0.length=0∧1≤a1∧a1≤1000000000
 ·rw [if_pos hl] at h
  obtain rfl:=Option.some.inj h
  obtain ⟨h0,h1,h2⟩:=hl
  have hA:A0=none:=by
   cases A0 with
   | none=>rfl
   | some x=>simp [rowOf] at hc0
  subst hA
  have hc:c0=0:=by
   simp only [rowOf] at hc0
   omega
  subst hc
  obtain rfl:=List.eq_nil_of_length_eq_zero h0
  clear hr0 hc0 h h0
  have LM:=am_ h2
  have L1:=am_ h1
  have c1:decide (a1 < 0)=false:=decide_eq_false (by omega)
  have hw:wrap64 (a1 - 0)=a1:=by
   rw [Int.sub_zero]
   unfold wrap64
   omega
  have hw2:wrap64 a1=a1:=by
   unfold wrap64
   omega
  have c2:decide (0 < a1)=true:=decide_eq_true (by omega)
  clear h1 h2
  have KEY:=am_ (fun (o:Oper) (a:Act) (ops:Array Oper) (rest:List Oper) (Q:Exit->Act->World->Prop) (ho:o.op = .call { callee:=.builtin .append,args:=#[.tmp 20,.tmp 21],argTypes:=#[22,3] }) (hg:o.guard=none) (hx1:a.eval (.tmp 20) = .slice none 0 0) (hx2:a.eval (.tmp 21) = .int .i64 a1)=>Kd.R_append_zeros (P:=Tryz.prog) (o:=o) (a:=a) (ops:=ops) (rest:=rest) (Q:=Q) Kd.string (w0:=w) w.heap.size hg (.tmp 20) (.tmp 21) 22 3 9 (.string ⟨#[]⟩) 16 ho Tryz.underlying22 Tryz.underlying3 slices_Grow_string_string.info rfl (by decide) (by omega) (.slice none 0 0) [] ByteArray.empty a1 (fun _=>True) hx1 hx2 rfl (fun _ _=>trivial) (Kd.R_nil _ _ _ _ _) (by have:=L1.out;omega) (Below.refl _ _) (Nat.le_refl _) (by have:=LM.out;simp only [List.length_nil];omega))
  go_enter Tryz.func172,Tryz.ntmps172
  go_wp2_with (at_builtin;refine KEY.out _ _ _ _ _ rfl rfl ?aS ?aX ?_;(case aS=>first|rfl|(go_simp;done)|(go_simp;rfl));(case aX=>first|rfl|(simp [hw2,hw];done)|(go_simp;done)|(go_simp;rfl));intro v1 w1 ho hb hg hat;obtain ⟨A1,k1,e1⟩:=Kd.R_slice ho;subst e1;have HO:=am_ ho;have HB:=am_ hb;clear ho hb hg hat)
  go_ret
  exact ⟨_,e2_,Kd.R_take (m:=0) HO.out (Nat.zero_le _),HB.out⟩
 ·rw [if_neg hl] at h
  cases h
end Go.Proofs.YtnlndmoecljicaaGreat.Q
end
