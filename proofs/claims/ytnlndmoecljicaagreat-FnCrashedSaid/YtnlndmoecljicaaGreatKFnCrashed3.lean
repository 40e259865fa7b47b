-- Joined and shortened by a program of this session (wip/tools/shakecopy.py): the words of the print,texts of pp.sh and of mine.
import Derived.Test.YtnlndmoecljicaaGreatKFnCrashed2
import Derived.Lib.SliceRun
set_option linter.unusedVariables false
set_option linter.unusedSimpArgs false
section
namespace Go.Proofs.YtnlndmoecljicaaGreat.Q
open Go.Proofs.YtnlndmoecljicaaGreatW.PrintLast Go.Proofs.YtnlndmoecljicaaGreatW.PrintMore Go.Proofs.YtnlndmoecljicaaGreatW.PrintWords Go.RowKit
attribute [local go_sem] max2_int min2_int max_two min_two max_three min_three max_four min_four
set_option maxHeartbeats 8000000
set_option maxRecDepth 100000
mutual
def slices_Concat_string_string.l0:Nat->List (List ByteArray)->Int->List (List ByteArray)->Int->Int->Option (List ByteArray)
 | 0,_,_,_,_,_=>none
 | k+1,x0,x3,x9,x10,x11=>if x11 < x10 then (if 0≤x11 then (if x11 < (x9.length:Int) then (if (wrap64 (x3+((rd_L5 x9 x11).length:Int))) < 0 then (none) else (slices_Concat_string_string.l0 k x0 (wrap64 (x3+((rd_L5 x9 x11).length:Int))) x9 x10 (wrap64 (x11+1)))) else (none)) else (none)) else ((slices_Grow_string_string.f ([]:List ByteArray) x3).bind fun t602=>(slices_Concat_string_string.l1 k t602 x0 (x0.length:Int) 0))
def slices_Concat_string_string.l1:Nat->List ByteArray->List (List ByteArray)->Int->Int->Option (List ByteArray)
 | 0,_,_,_,_=>none
 | k+1,x6,x25,x26,x27=>if x27 < x26 then (if 0≤x27 then (if x27 < (x25.length:Int) then (if x6.length+(rd_L5 x25 x27).length < 8796093022208 then (slices_Concat_string_string.l1 k (x6 ++ (rd_L5 x25 x27)) x25 x26 (wrap64 (x27+1))) else (none)) else (none)) else (none)) else (some x6)
end
def slices_Concat_string_string.f (k:Nat) (l0:List (List ByteArray)):Option (List ByteArray):=slices_Concat_string_string.l0 k l0 0 l0 (l0.length:Int) 0
theorem slices_Concat_string_string.calls (k:Nat) (A0:Option Addr) (c0:Nat) (l0:List (List ByteArray)) (r:List ByteArray) (w:World) (hr0:Kd.C (Kd.slice 9 Kd.string) w A0 l0.length l0) (hc0:l0.length≤c0) (h:slices_Concat_string_string.f k l0=some r) :
  Calls Tryz.prog 165 #[.slice A0 l0.length c0] w fun e w'=>∃ v0_:Value,e = .returned (v0_)∧Kd.R Kd.string 9 w' w.heap.size (fun _=>True) v0_ r∧Below w.heap.size w w':=by
 have HR0:=am_ hr0
 have HC0:=am_ hc0
 clear hr0 hc0
 have HB:=h0_ w
 have H:(slices_Concat_string_string.l0 k l0 0 l0 (l0.length:Int) 0)=some r:=h
 clear h
 have H':=am_ H
 clear H
 go_enter Tryz.func165,Tryz.ntmps165
 go_wp2
 go_loopg [3,11] k (fun kq v3 v11 w'=>∃ (x3_1:Int) (x11_1:Int),v3 = .int .i64 x3_1∧v11 = .int .i64 x11_1∧Aside0 (slices_Concat_string_string.l0 kq l0 x3_1 l0 (l0.length:Int) x11_1=some r)∧Aside0 (kq≤k)∧Aside0 (Below w.heap.size w w'))
 case atStart => exact ⟨(0),(0),e1_,e1_,H',⟨Nat.le_refl _⟩,⟨bw_ HB⟩⟩
 case round =>
  clear H'
  obtain ⟨x3_1,x11_1,rfl,rfl,HA,HK1,HB⟩:=hrel
  cases gk with
  | zero=>exact absurd HA.out (by simp [slices_Concat_string_string.l0])
  | succ k1 =>
   have H:=HA.out
   clear HA
   simp only [slices_Concat_string_string.l0] at H
   replace H:=itd_ H;obtain ⟨c2b0,H⟩|⟨c2b0,H⟩:=H
   ·replace H:=ipd_ H;obtain ⟨c3b0,H⟩:=H
    replace H:=ipd_ H;obtain ⟨c4b0,H⟩:=H
    replace H:=ind_ H;obtain ⟨c5b0,H⟩:=H
    have H':=am_ H
    clear H
    have p601:0≤(x11_1:Int):=od_
    have q1:x11_1 < (l0.length:Int):=od_
    obtain ⟨ad1,A1_0,c1_0,e601,hx1_0,hl1_0,hi1_0⟩:=at_L5 HR0.out x11_1 p601 q1
    cases e601
    replace hx1_0:=cw_ HB hx1_0
    have HR1_0:=am_ hi1_0
    have HC1_0:=am_ hl1_0
    clear hi1_0 hl1_0
    replace p601:=eq_true p601
    replace q1:=eq_true q1
    go_wp2
    go_roundg k1
    case measure => have:=HK1.out;omega
    case rel => exact ⟨(wrap64 (x3_1+((rd_L5 l0 x11_1).length:Int))),(wrap64 (x11_1+1)),e1_,e1_,H',⟨by have:=HK1.out;omega⟩,⟨bw_ HB⟩⟩
   ·replace H:=bi_ H;obtain ⟨t602,A6,H⟩:=H
    have H':=am_ H
    clear H
    go_wp2_with (first|((with_reducible refine gk_ 172 ?_);refine gl_ 24 Tryz.func172 #[.slice none 0 0,.int .i64 x3_1] ?_;(refine (slices_Grow_string_string.calls _ _ ([]:List ByteArray) x3_1 t602 _ ?side1 ?side2 A6.out).mono ?_);(case side1=>exact Kd.C_nil _ _);(case side2=>exact Nat.le_refl _);rintro e w7 ⟨v603,rfl,ho0,hb⟩;refine ⟨_,rfl,?_⟩;have HO4:=rlo_ ho0 HB;replace HB:=ss_ HB hb;clear hb ho0))
    go_loopg [6,27] k1 (fun kq v6 v27 w'=>∃ (x6_2:List ByteArray) (x27_2:Int),v27 = .int .i64 x27_2∧Aside0 (slices_Concat_string_string.l1 kq x6_2 l0 (l0.length:Int) x27_2=some r)∧Aside0 (kq≤k1)∧Aside0 (Kd.R Kd.string 9 w' w.heap.size (fun _=>True) v6 x6_2)∧Aside0 (Below w.heap.size w w'))
    case atStart => exact ⟨(t602),(0),e1_,H',⟨Nat.le_refl _⟩,⟨kr_ HO4.out⟩,⟨bw_ HB⟩⟩
    case round =>
     clear H'
     try clear c1
     try clear c2b0
     obtain ⟨x6_2,x27_2,rfl,HA,HK2,HO_6,HB⟩:=hrel
     cases gk with
     | zero=>exact absurd HA.out (by simp [slices_Concat_string_string.l1])
     | succ k2 =>
      have H:=HA.out
      clear HA
      simp only [slices_Concat_string_string.l1] at H
      replace H:=itd_ H;obtain ⟨c8b0,H⟩|⟨c8b0,H⟩:=H
      ·replace H:=ipd_ H;obtain ⟨c9b0,H⟩:=H
       replace H:=ipd_ H;obtain ⟨c10b0,H⟩:=H
       replace H:=ip_ H;obtain ⟨c11,H⟩:=H
       have LMc11:=am_ c11
       clear c11
       obtain ⟨y606,hy6⟩:∃ y_:List ByteArray,y_=(x6_2 ++ (rd_L5 l0 x27_2)):=⟨_,rfl⟩
       replace H:(slices_Concat_string_string.l1 k2 y606 l0 (l0.length:Int) (wrap64 (x27_2+1)))=some r:=yh_ hy6 H
       have Ny6:=am_ hy6
       clear hy6
       have H':=am_ H
       clear H
       have p605:0≤(x27_2:Int):=od_
       have q5:x27_2 < (l0.length:Int):=od_
       obtain ⟨ad5,A5_0,c5_0,e5,hx5_0,hl5_0,hi5_0⟩:=at_L5 HR0.out x27_2 p605 q5
       cases e5
       replace hx5_0:=cw_ HB hx5_0
       have HR5_0:=am_ hi5_0
       have HC5_0:=am_ hl5_0
       clear hi5_0 hl5_0
       replace p605:=eq_true p605
       replace q5:=eq_true q5
       go_wp2_with (first|((with_reducible refine gate_builtin (b:=.append) (xs:=#[.tmp 31,.tmp 32]) rfl ?_);at_builtin;refine Kd.R_append_rows Kd.string (w0:=w) w.heap.size rfl (.tmp 31) (.tmp 32) 22 9 (.string ⟨#[]⟩) 16 rfl Tryz.underlying22 info9 rfl (by decide) (by omega) u6 x6_2 (rd_L5 l0 x27_2) _ _ _ (fun _=>True) (fun _=>False) rfl rfl ?aO ?aR (fun _ _ h=>h) (fun _ h=>h.elim) ?aF ?aB ?aS ?aL ?_;(case aR=>exact cb_ HR5_0 HB);(case aB=>exact (bw_ HB));(case aF=>exact (fun _ _=>trivial));(case aO=>exact (kr_ HO_6.out));(case aS=>exact (sz_ HB));(case aL=>have:=LMc11.out;omega);intro v7 w12 ho hb hg hat;rw [← Ny6.out] at ho;replace HB:=am_ hb;have HO8:=am_ ho;clear HO_6;clear ho hb hg hat))
       go_roundg k2
       case measure => have:=HK1.out;have:=HK2.out;omega
       case rel => exact ⟨(y606),(wrap64 (x27_2+1)),e1_,H',⟨by have:=HK1.out;have:=HK2.out;omega⟩,⟨kr_ HO8.out⟩,⟨bw_ HB⟩⟩
      ·obtain rfl:=Option.some.inj H
       go_wp2
       go_ret
       exact ⟨_,e2_,kr_ HO_6.out,bw_ HB⟩
def slices_Clone_string_string.f (l0:List ByteArray):Option (List ByteArray):=if l0.length≤8796093022208 then some l0 else none
theorem slices_Clone_string_string.info:(Tryz.prog.info? 9).map (fun i=>(i.zero,i.size,i.bytes))=some (some (.string ⟨#[]⟩),1,16):=by kernel_rfl
set_option maxHeartbeats 1000000 in
theorem slices_Clone_string_string.calls (A0:Option Addr) (c0:Nat) (l0:List ByteArray) (r:List ByteArray) (w:World) (hr0:Kd.C Kd.string w A0 l0.length l0) (hc0:l0.length≤c0) (h:slices_Clone_string_string.f l0=some r) :
  Calls Tryz.prog 144 #[.slice A0 l0.length c0] w fun e w'=>∃ v0_:Value,e = .returned (v0_)∧Kd.R Kd.string 9 w' w.heap.size (fun _=>True) v0_ r∧Below w.heap.size w w':=by
 unfold slices_Clone_string_string.f at h
 by_cases hl:l0.length≤8796093022208
 ·rw [if_pos hl] at h
  obtain rfl:=Option.some.inj h
  have LM:=am_ hl
  have HR0:=am_ hr0
  have HC0:=am_ hc0
  have hn:=fun W:World=>Lib.run_eql_slice_nil (P:=Tryz.prog) W 22 9 A0 l0.length c0 0 0 Tryz.underlying22
  clear hl h hc0
  cases A0 with
  | none =>
   have h0:l0=[]:=by
    rcases Nat.eq_zero_or_pos l0.length with hz|hz
    ·exact List.eq_nil_of_length_eq_zero hz
    ·obtain ⟨ad,he,_⟩:=hr0.2.2 hz
     cases he
   subst h0
   clear hr0 hn
   have hn2:=fun W:World=>Lib.run_eql_slice_nil (P:=Tryz.prog) W 22 9 none 0 c0 0 0 Tryz.underlying22
   go_enter Tryz.func144,Tryz.ntmps144
   go_wp2
   go_ret
   exact ⟨_,rfl,Kd.R_nil _ _ _ _ _,Below.refl _ _⟩
  | some ad =>
   clear hr0
   go_enter Tryz.func144,Tryz.ntmps144
   go_wp2_with (first|((with_reducible refine gate_dst (N:=5) rfl ?_);refine Kd.R_lit Kd.string _ 9 ?hg (N:=5) ?hd (w0:=w) (xs:=([]:List ByteArray)) (inner:=[]) (ok:=fun _=>True) (okp:=fun _=>True) ?hr ?hp (fun _ hk=>hk) trivial (Below.refl _ _) (Nat.le_refl _) (by simp) ?_;(case hd=>rfl);(case hg=>rfl);(case hr=>first|(go_simp;done)|(go_simp;rfl));(case hp=>exact (Reps.none _ _));intro v1 w4 ho5 hb hg_ hnew_;clear hg_ hnew_;have HO:=am_ ho5;have HB:=am_ hb;clear ho5 hb)|((with_reducible refine gate_builtin (b:=.append) (xs:=#[.tmp 5,.tmp 6]) rfl ?_);at_builtin;refine Kd.R_append_rows Kd.string (w0:=w) w.heap.size rfl (.tmp 5) (.tmp 6) 22 9 (.string ⟨#[]⟩) 16 rfl Tryz.underlying22 slices_Clone_string_string.info rfl (by decide) (by omega) v1 [] l0 _ _ _ (fun _=>True) (fun _=>False) rfl rfl ?aO ?aR (fun _ _ h=>h) (fun _ h=>h.elim) ?aF ?aB ?aS ?aL ?_;(case aR=>exact Kd.C_below HR0.out HB.out);(case aB=>exact HB.out);(case aF=>exact (fun _ _=>trivial));(case aO=>exact HO.out);(case aS=>exact HB.out.size);(case aL=>have:=LM.out;simp only [List.length_nil];omega);intro v2 w6 ho hb hg hat;have HO2:=am_ ho;have HB2:=am_ hb;clear ho hb hg hat))
   go_ret
   exact ⟨_,rfl,by simpa using HO2.out,HB2.out⟩
 ·rw [if_neg hl] at h
  cases h
def impl_copyLog.f (l0_0:List ByteArray) (a0_1:Int) (a0_2:ByteArray):Option (List ByteArray × Int × ByteArray):=(slices_Clone_string_string.f l0_0).bind fun t3=>(some (t3,a0_1,a0_2))
theorem impl_copyLog.calls (A0_0:Option Addr) (c0_0:Nat) (l0_0:List ByteArray) (a0_1:Int) (a0_2:ByteArray) (r1:List ByteArray) (r2:Int) (r3:ByteArray) (w:World) (hr0_0:Kd.C Kd.string w A0_0 l0_0.length l0_0) (hc0_0:l0_0.length≤c0_0) (h:impl_copyLog.f l0_0 a0_1 a0_2=some (r1,r2,r3)) :
  Calls Tryz.prog 121 #[.agg #[.slice A0_0 l0_0.length c0_0,.int .i64 a0_1,.string a0_2]] w fun e w'=>∃ v0_:Value,e = .returned (.agg #[v0_,.int .i64 r2,.string r3])∧Kd.R Kd.string 9 w' w.heap.size (fun _=>True) v0_ r1∧Below w.heap.size w w':=by
 have hu39:=Tryz.underlying39
 have HR0_0:=am_ hr0_0
 have HC0_0:=am_ hc0_0
 clear hr0_0 hc0_0
 have HB:=h0_ w
 have H:((slices_Clone_string_string.f l0_0).bind fun t3=>(some (t3,a0_1,a0_2)))=some (r1,r2,r3):=h
 clear h
 replace H:=bi_ H;obtain ⟨t3,A2,H⟩:=H
 replace H:=so3_ H;obtain ⟨rfl,rfl,rfl⟩:=H
 go_enter Tryz.func121,Tryz.ntmps121
 go_wp2_with (first|((with_reducible refine gd_ 1 ?_);refine bx_ 1 39 #[.slice A0_0 l0_0.length c0_0,.int .i64 a0_1,.string a0_2] (hx_ HB ?_);clear HB;intro gb1 w3 BK1 GW1 HB;have GE1:=GW1)|((with_reducible refine gd_ 2 ?_);refine x39_ 2 ?_;intro gb2 hg w4 hbox hb;have BK2:=am_ hbox;have GW2:=gg_ hg HB;have GE2:=GW2;replace HB:=ss_ HB hb;have NB1_2:=nla_ hg BK1;have NB2_1:=nga_ hg BK1;replace BK1:=kl_ BK1 hb;clear hb hbox hg;have hnb5:=NB1_2.out;have hnc5:=NB2_1.out;have hz6:=cz3_ BK1)|((with_reducible refine gq_ 144 5 ?_);refine gc_ 5 Tryz.func144 (slices_Clone_string_string.calls _ _ l0_0 t3 _ (cb_ HR0_0 HB) HC0_0.out A2.out) ?_;rintro e w7 ⟨v4,rfl,ho0,hb⟩;refine ⟨_,rfl,?_⟩;have HO5:=rlo_ ho0 HB;replace BK1:=kl_ BK1 hb;replace BK2:=kl_ BK2 hb;replace HB:=ss_ HB hb;clear hb ho0;obtain ⟨Ao8,co8,eo8⟩:=Kd.R_slice HO5.out;subst eo8;have hz9:=cz3_ BK1;have hz10:=cz3_ BK2))
 refine bodyPost_ret (rcr_ gb2 39 #[.slice Ao8 t3.length co8,.int .i64 a0_1,.string a0_2] BK2 Tryz.underlying39) rfl ?_
 exact ⟨_,e2_,kfm2_ HO5 BK1 BK2,bw_ HB⟩
def spec_l11Copy.f (l0_0:List ByteArray) (a0_1:Int) (a0_2:ByteArray):Option (List ByteArray × Int × ByteArray):=(some (([]:List ByteArray):List ByteArray)).bind fun y603=>(if y603.length+l0_0.length < 8796093022208 then (some ((y603 ++ l0_0),a0_1,a0_2)) else (none))
def spec_l11Copy.T1:Bool × List (List Nat × List Nat):=(true,[([],[]),([],[]),([1],[1]),([0,2],[0,2]),([],[]),([4],[4]),([3,5],[3,5]),([6,3,0,1,2,3,4,5,6],[6])])
def spec_l11Copy.B1:List Nat:=[0,0,2,7,0,16,63,127]
theorem spec_l11Copy.tab1:rtab .any (opsOf Tryz.f125 1)=spec_l11Copy.T1:=by kernel_rfl
theorem spec_l11Copy.bits1:waitsOk spec_l11Copy.T1.2 spec_l11Copy.B1=true:=by kernel_rfl
theorem spec_l11Copy.calls (A0_0:Option Addr) (c0_0:Nat) (l0_0:List ByteArray) (a0_1:Int) (a0_2:ByteArray) (r1:List ByteArray) (r2:Int) (r3:ByteArray) (w:World) (hr0_0:Kd.C Kd.string w A0_0 l0_0.length l0_0) (hc0_0:l0_0.length≤c0_0) (h:spec_l11Copy.f l0_0 a0_1 a0_2=some (r1,r2,r3)) :
  Calls Tryz.prog 125 #[.agg #[.slice A0_0 l0_0.length c0_0,.int .i64 a0_1,.string a0_2]] w fun e w'=>∃ v0_:Value,e = .returned (.agg #[v0_,.int .i64 r2,.string r3])∧Kd.R Kd.string 9 w' w.heap.size (fun _=>True) v0_ r1∧Below w.heap.size w w':=by
 have hu39:=Tryz.underlying39
 have hu37:=Tryz.underlying37
 have HR0_0:=am_ hr0_0
 have HC0_0:=am_ hc0_0
 clear hr0_0 hc0_0
 have HB:=h0_ w
 have H:((some (([]:List ByteArray):List ByteArray)).bind fun y603=>(if y603.length+l0_0.length < 8796093022208 then (some ((y603 ++ l0_0),a0_1,a0_2)) else (none)))=some (r1,r2,r3):=h
 clear h
 obtain ⟨y603,Ny3,H⟩:=sb_ (([]:List ByteArray)) H
 replace H:=ip_ H;obtain ⟨c2,H⟩:=H
 have LMc2:=am_ c2
 clear c2
 obtain ⟨y606,hy6⟩:∃ y_:List ByteArray,y_=(y603 ++ l0_0):=⟨_,rfl⟩
 replace H:(some (y606,a0_1,a0_2))=some (r1,r2,r3):=yh_ hy6 H
 have Ny6:=am_ hy6
 clear hy6
 replace H:=so3_ H;obtain ⟨rfl,rfl,rfl⟩:=H
 go_enter Tryz.func125,Tryz.ntmps125
 try go_wp2_with (first|((with_reducible refine gd_ 1 ?_);refine bx_ 1 39 #[.slice A0_0 l0_0.length c0_0,.int .i64 a0_1,.string a0_2] (hx_ HB ?_);clear HB;intro gb1 w3 BK1 GW1 HB;have GE1:=GW1)|((with_reducible refine gd_ 2 ?_);refine x39_ 2 ?_;intro gb2 hg w4 hbox hb;have BK2:=am_ hbox;have GW2:=gg_ hg HB;have GE2:=GW2;replace HB:=ss_ HB hb;have NB1_2:=nla_ hg BK1;have NB2_1:=nga_ hg BK1;replace BK1:=kl_ BK1 hb;clear hb hbox hg))
 replace BK1:=bd_ BK1
 replace BK2:=bd_ BK2
 replace HB:=hd_ HB
 refine sw_ 8 (fun w'=>w'.cell? ⟨gb1,0,none⟩=some (.slice A0_0 l0_0.length c0_0)∧w'.cell? ⟨gb1,1,none⟩=some (.int .i64 a0_1)∧w'.cell? ⟨gb1,2,none⟩=some (.string a0_2)) [] spec_l11Copy.tab1 spec_l11Copy.bits1 ⟨bc0_ BK1.out,bc1_ BK1.out,bc2_ BK1.out⟩ (fun hHeld HT_ HW_=>?_)
 generalize w4.drew=w5 at BK1 BK2 HB hHeld ⊢
 refine pt_ 1 4 2 ?_
 refine pt_ 4 7 18 ?_
 refine tt_ 2 5 22 ?_
 refine tt_ 5 8 54 ?_
 refine oz_ 0 3 8 55 (fun K hK=>?_)
 refine Kd.R_lit_step Kd.string _ 9 ?hg (N:=3) ?hd (xs:=([]:List ByteArray)) (inner:=[]) (ok:=fun _=>True) (okp:=fun _=>True) ?hr ?hp (fun _ hk=>hk) trivial (Below.refl _ _) (Nat.le_refl _) (by simp) ?_;(case hd=>rfl);(case hg=>rfl);(case hr=>first|(go_simp;done)|(go_simp;rfl));(case hp=>exact (Reps.none _ _))
 intro v4 w6 ho7 hb hg_ hnew_
 clear hg_ hnew_
 (first | rw [← Ny3.out] at ho7|(simp only [Int.reduceToNat] at ho7;rw [← Ny3.out] at ho7))
 have HO5:=rlo_ ho7 HB
 replace BK1:=kl_ BK1 hb
 replace BK2:=kl_ BK2 hb
 replace HB:=ss_ HB hb
 clear hb ho7
 refine hK.out _ _ ⟨bc0_ BK1.out,bc1_ BK1.out,bc2_ BK1.out⟩ (fun hHeld=>?_)
 clear hK K
 refine no_ 3 ?_
 refine oz_ 3 6 8 63 (fun K hK=>?_)
 refine Kd.R_append_rows_step Kd.string (w0:=w) w.heap.size (by rfl) (.tmp 3) (.tmp 5) 22 9 (.string ⟨#[]⟩) 16 rfl Tryz.underlying22 info9 rfl (by decide) (by omega) v4 y603 l0_0 _ _ _ (fun _=>True) (fun _=>False) rfl rfl ?aO ?aR (fun _ _ h=>h) (fun _ h=>h.elim) ?aF ?aB ?aS ?aL ?_
 (case aR=>exact cb_ HR0_0 HB)
 (case aB=>exact (bw_ HB))
 (case aF=>exact (fun _ _=>trivial))
 (case aO=>exact (kr_ HO5.out))
 (case aS=>exact (sz_ HB))
 (case aL=>have:=LMc2.out;omega)
 intro v7 w8 ho hb hg hat
 rw [← Ny6.out] at ho
 replace BK1:=kg_ BK1 HO5 hg
 replace BK2:=kg_ BK2 HO5 hg
 replace HB:=am_ hb
 have HO8:=am_ ho
 clear HO5
 clear ho hb hg hat
 obtain ⟨Ao9,co9,eo9⟩:=Kd.R_slice HO8.out
 subst eo9
 refine hK.out _ _ ⟨bc0_ BK1.out,bc1_ BK1.out,bc2_ BK1.out⟩ (fun hHeld=>?_)
 clear hK K
 refine no_ 6 ?_
 refine pt_ 6 9 127 ?_
 refine one_ (i:=7) (N:=none) (lz_ 8 255) rfl rfl (one_of HT_.out (by kernel_rfl)) (by decide) (fun K hK=>?_)
 have hs10:=bc0_ BK2.out
 have hfs10:=blk_frozen BK2.out 0
 have hns10_0:=NB1_2.out
 have hms10_0:=NB2_1.out
 have hs11:=bc1_ BK2.out
 have hfs11:=blk_frozen BK2.out 1
 have hns11_0:=NB1_2.out
 have hms11_0:=NB2_1.out
 have hs12:=bc2_ BK2.out
 have hfs12:=blk_frozen BK2.out 2
 have hns12_0:=NB1_2.out
 have hms12_0:=NB2_1.out
 refine skip_ (w1:=?_) (by rfl) rfl ?_ ?_
 rotate_left
 ·go_simp
  rfl
 refine hK.out _ _ ⟨(cf_ NB1_2 hHeld.1),(cf_ NB1_2 hHeld.2.1),(cf_ NB1_2 hHeld.2.2)⟩ (fun hHeld=>?_)
 clear hK K
 refine dn_ ?_
 try go_wp2
 refine bodyPost_ret (rcr_ gb2 39 #[.slice Ao9 y606.length co9,.int .i64 a0_1,.string a0_2] BK2 Tryz.underlying39) rfl ?_
 exact ⟨_,e2_,kfm_ HO8 BK2,bw_ HB⟩
section
attribute [local go_sem high] eqA37
def spec_Extend.j0:Nat->List (S37)->List ByteArray->List ByteArray->Bool->Int->ByteArray->List ByteArray->Int->ByteArray->Option (List ByteArray × Int × ByteArray × Int)
 | 0,_,_,_,_,_,_,_,_,_=>none
 | k+1,x1,x3,x11,x20,x3000,x3001,x10000,x10001,x10002=>if x20=true then (some (x10000,x10001,x10002,1)) else ((spec_IsSigned.f k x1 x3000 x3001).bind fun t21=>(if t21=true then (if (x3.length:Int)=0 then (some (x10000,x10001,x10002,3)) else ((spec_HeadOf.f k x11).bind fun bt22=>(if (!(x3000 == bt22.1) || (!(x3001.toList == bt22.2.toList)))=true then (some (x10000,x10001,x10002,4)) else (some (x11,x3000,x3001,0))))) else (some (x10000,x10001,x10002,2))))
def spec_Extend.f (k:Nat) (l0_0:List ByteArray) (a0_1:Int) (a0_2:ByteArray) (l1:List (S37)) (a2_0:Int) (a2_1:ByteArray) (l3:List ByteArray):Option (List ByteArray × Int × ByteArray × Int):=(spec_l11Copy.f l0_0 a0_1 a0_2).bind fun bt4=>((some (([]:List ByteArray):List ByteArray)).bind fun y10=>(if y10.length+l0_0.length < 8796093022208 then ((some (y10 ++ l0_0:List ByteArray)).bind fun y13=>(if y13.length+l3.length < 8796093022208 then ((some (y13 ++ l3:List ByteArray)).bind fun y16=>((spec_LogOk.f k l0_0 a0_1 a0_2).bind fun t19=>(if t19=true then ((spec_HeadOk.f a2_0 a2_1).bind fun t20=>(if t20=true then (spec_Extend.j0 k l1 l3 y16 (a2_0 != (y16.length:Int)) a2_0 a2_1 bt4.1 bt4.2.1 bt4.2.2) else (spec_Extend.j0 k l1 l3 y16 true a2_0 a2_1 bt4.1 bt4.2.1 bt4.2.2))) else (spec_Extend.j0 k l1 l3 y16 true a2_0 a2_1 bt4.1 bt4.2.1 bt4.2.2)))) else (none))) else (none)))
theorem spec_Extend.calls (k:Nat) (A0_0:Option Addr) (c0_0:Nat) (l0_0:List ByteArray) (a0_1:Int) (a0_2:ByteArray) (A1:Option Addr) (c1:Nat) (l1:List (S37)) (a2_0:Int) (a2_1:ByteArray) (A3:Option Addr) (c3:Nat) (l3:List ByteArray) (r1:List ByteArray) (r2:Int) (r3:ByteArray) (r4:Int) (w:World) (hr0_0:Kd.C Kd.string w A0_0 l0_0.length l0_0) (hc0_0:l0_0.length≤c0_0) (hr1:Kd.C k37 w A1 l1.length l1) (hc1:l1.length≤c1) (hr3:Kd.C Kd.string w A3 l3.length l3) (hc3:l3.length≤c3) (h:spec_Extend.f k l0_0 a0_1 a0_2 l1 a2_0 a2_1 l3=some (r1,r2,r3,r4)) :
  Calls Tryz.prog 150 #[.agg #[.slice A0_0 l0_0.length c0_0,.int .i64 a0_1,.string a0_2],.slice A1 l1.length c1,.agg #[.int .i64 a2_0,.string a2_1],.slice A3 l3.length c3] w fun e w'=>∃ v0_:Value,e = .returned (.tuple #[.agg #[v0_,.int .i64 r2,.string r3],.int .i64 r4])∧Kd.R Kd.string 9 w' w.heap.size (fun _=>True) v0_ r1∧Below w.heap.size w w':=by
 have hu39:=Tryz.underlying39
 have hu37:=Tryz.underlying37
 have HR0_0:=am_ hr0_0
 have HC0_0:=am_ hc0_0
 clear hr0_0 hc0_0
 have HR1:=am_ hr1
 have HC1:=am_ hc1
 clear hr1 hc1
 have HR3:=am_ hr3
 have HC3:=am_ hc3
 clear hr3 hc3
 have HB:=h0_ w
 have H:((spec_l11Copy.f l0_0 a0_1 a0_2).bind fun bt4=>((some (([]:List ByteArray):List ByteArray)).bind fun y10=>(if y10.length+l0_0.length < 8796093022208 then ((some (y10 ++ l0_0:List ByteArray)).bind fun y13=>(if y13.length+l3.length < 8796093022208 then ((some (y13 ++ l3:List ByteArray)).bind fun y16=>((spec_LogOk.f k l0_0 a0_1 a0_2).bind fun t19=>(if t19=true then ((spec_HeadOk.f a2_0 a2_1).bind fun t20=>(if t20=true then (spec_Extend.j0 k l1 l3 y16 (a2_0 != (y16.length:Int)) a2_0 a2_1 bt4.1 bt4.2.1 bt4.2.2) else (spec_Extend.j0 k l1 l3 y16 true a2_0 a2_1 bt4.1 bt4.2.1 bt4.2.2))) else (spec_Extend.j0 k l1 l3 y16 true a2_0 a2_1 bt4.1 bt4.2.1 bt4.2.2)))) else (none))) else (none))))=some (r1,r2,r3,r4):=h
 clear h
 replace H:=bi_ H;obtain ⟨⟨t4,t7,t8⟩,A5,H⟩:=H
 dsimp only at H
 obtain ⟨y10,Ny10,H⟩:=sb_ (([]:List ByteArray)) H
 replace H:=ip_ H;obtain ⟨c6,H⟩:=H
 have LMc6:=am_ c6
 clear c6
 obtain ⟨y13,Ny13,H⟩:=sb_ (y10 ++ l0_0) H
 replace H:=ip_ H;obtain ⟨c7,H⟩:=H
 have LMc7:=am_ c7
 clear c7
 obtain ⟨y16,Ny16,H⟩:=sb_ (y13 ++ l3) H
 have HC8:=am_ H
 clear H
 go_enter Tryz.func150,Tryz.ntmps150
 go_upto_region 3 with (first|((with_reducible refine gd_ 4 ?_);(try (refine gate_guard (by rfl) ?_;dsimp only));refine bx_ 4 39 #[.slice A0_0 l0_0.length c0_0,.int .i64 a0_1,.string a0_2] (hx_ HB ?_);clear HB;intro gb1 w9 BK1 GW1 HB;have GE1:=GW1)|((with_reducible refine gd_ 6 ?_);(try (refine gate_guard (by rfl) ?_;dsimp only));refine bx_ 6 37 #[.int .i64 a2_0,.string a2_1] ?_;intro gb2 hg w10 hbox hb;have BK2:=am_ hbox;have GW2:=gg_ hg HB;have GE2:=GW2;replace HB:=ss_ HB hb;have NB1_2:=nla_ hg BK1;have NB2_1:=nga_ hg BK1;replace BK1:=kl_ BK1 hb;clear hb hbox hg)|((with_reducible refine gd_ 8 ?_);(try (refine gate_guard (by rfl) ?_;dsimp only));refine x39_ 8 ?_;intro gb3 hg w11 hbox hb;have BK3:=am_ hbox;have GW3:=gg_ hg HB;have GE3:=GW3;replace HB:=ss_ HB hb;have NB1_3:=nla_ hg BK1;have NB3_1:=nga_ hg BK1;replace BK1:=kl_ BK1 hb;have NB2_3:=nla_ hg BK2;have NB3_2:=nga_ hg BK2;replace BK2:=kl_ BK2 hb;clear hb hbox hg;have hnb12:=NB1_2.out;have hnc12:=NB2_1.out;have hnb13:=NB1_3.out;have hnc13:=NB3_1.out;have hz14:=cz3_ BK1)|((with_reducible refine gq_ 125 13 ?_);refine gc_ 13 Tryz.func125 (spec_l11Copy.calls _ _ l0_0 a0_1 a0_2 t4 t7 t8 _ (cb_ HR0_0 HB) HC0_0.out A5.out) ?_;rintro e w15 ⟨v5,rfl,ho0,hb⟩;refine ⟨_,rfl,?_⟩;have HO6:=rlo_ ho0 HB;replace BK1:=kl_ BK1 hb;replace BK2:=kl_ BK2 hb;replace BK3:=kl_ BK3 hb;replace HB:=ss_ HB hb;clear hb ho0)|((with_reducible refine gd_ 10 ?_);(try (refine gate_guard (by rfl) ?_;dsimp only));refine x39_ 10 ?_;intro gb9 hg w16 hbox hb;replace HO6:=rb_ HO6 hb;have BK9:=am_ hbox;have GW9:=gg_ hg HB;have GE9:=GW9;replace HB:=ss_ HB hb;have NB1_9:=nla_ hg BK1;have NB9_1:=nga_ hg BK1;replace BK1:=kl_ BK1 hb;have NB2_9:=nla_ hg BK2;have NB9_2:=nga_ hg BK2;replace BK2:=kl_ BK2 hb;have NB3_9:=nla_ hg BK3;have NB9_3:=nga_ hg BK3;replace BK3:=kl_ BK3 hb;clear hb hbox hg;obtain ⟨Ao17,co17,eo17⟩:=Kd.R_slice HO6.out;subst eo17;have hnb18:=NB9_1.out;have hnc18:=NB1_9.out;have hnb19:=NB9_2.out;have hnc19:=NB2_9.out;have hnb20:=NB9_3.out;have hnc20:=NB3_9.out;have hz21:=cz3_ BK9)|((with_reducible refine gd_ 14 ?_);(try (refine gate_guard (by rfl) ?_;dsimp only));refine rl_ Kd.string 9 14 ([]:List ByteArray) [] ?_;intro v11 w22 ho23 hb hg_ hnew_;clear hg_ hnew_;(first|rw [← Ny10.out] at ho23|(simp only [Int.reduceToNat] at ho23;rw [← Ny10.out] at ho23));have HO12:=am_ (Kd.R_lower (Kd.R_new' ho23 (lf_ HO6 BK9)) (sz_ HB));replace HO6:=ref_ HO6 BK9 ho23 hb;replace BK1:=kp_ BK1 hb;replace BK2:=kp_ BK2 hb;replace BK3:=kp_ BK3 hb;replace BK9:=kp_ BK9 hb;replace HB:=ss_ HB hb;clear hb ho23;have hz24:=cz3_ BK1)|((with_reducible refine gate_builtin (b:=.append) (xs:=#[.tmp 14,.tmp 16]) rfl ?_);(try (refine gate_guard (by rfl) ?_;dsimp only));at_builtin;refine Kd.R_append_rows Kd.string (w0:=w) w.heap.size rfl (.tmp 14) (.tmp 16) 22 9 (.string ⟨#[]⟩) 16 rfl Tryz.underlying22 info9 rfl (by decide) (by omega) v11 y10 l0_0 _ _ _ (fun k_=>some k_ ≠ (.slice Ao17 t4.length co17:Value).ownBlock) (fun _=>False) rfl rfl ?aO ?aR (fun _ _ h=>h) (fun _ h=>h.elim) ?aF ?aB ?aS ?aL ?_;(case aR=>exact cb_ HR0_0 HB);(case aB=>exact (bw_ HB));(case aF=>exact (fun k_ hk=>Kd.fresh' (lt_ HO6) k_ hk));(case aO=>exact (kr_ (Kd.R_mono HO12.out (fun _ hk=>hk.2))));(case aS=>exact (sz_ HB));(case aL=>have:=LMc6.out;omega);intro v14 w25 ho hb hg hat;rw [← Ny13.out] at ho;replace BK1:=kg_ BK1 HO12 hg;replace BK2:=kg_ BK2 HO12 hg;replace BK3:=kg_ BK3 HO12 hg;replace HO6:=am_ (Kd.R_after (ok:=(fun _=>True)) (kr_ HO6.out) hg hat);replace BK9:=kg_ BK9 HO12 hg;replace HB:=am_ hb;have HO15:=am_ ho;clear HO12;clear ho hb hg hat)|((with_reducible refine gate_builtin (b:=.append) (xs:=#[.tmp 17,.tmp 18]) rfl ?_);(try (refine gate_guard (by rfl) ?_;dsimp only));at_builtin;refine Kd.R_append_rows Kd.string (w0:=w) w.heap.size rfl (.tmp 17) (.tmp 18) 22 9 (.string ⟨#[]⟩) 16 rfl Tryz.underlying22 info9 rfl (by decide) (by omega) v14 y13 l3 _ _ _ (fun k_=>some k_ ≠ (.slice Ao17 t4.length co17:Value).ownBlock) (fun _=>False) rfl rfl ?aO ?aR (fun _ _ h=>h) (fun _ h=>h.elim) ?aF ?aB ?aS ?aL ?_;(case aR=>exact cb_ HR3 HB);(case aB=>exact (bw_ HB));(case aF=>exact (fun k_ hk=>Kd.fresh' (lt_ HO6) k_ hk));(case aO=>exact (kr_ HO15.out));(case aS=>exact (sz_ HB));(case aL=>have:=LMc7.out;omega);intro v17 w26 ho hb hg hat;rw [← Ny16.out] at ho;replace BK1:=kg_ BK1 HO15 hg;replace BK2:=kg_ BK2 HO15 hg;replace BK3:=kg_ BK3 HO15 hg;replace HO6:=am_ (Kd.R_after (ok:=(fun _=>True)) (kr_ HO6.out) hg hat);replace BK9:=kg_ BK9 HO15 hg;replace HB:=am_ hb;have HO18:=am_ ho;clear HO15;clear ho hb hg hat))
 (try simp only [Act.put,List.setIfInBounds_toArray,List.set_cons_zero,List.set_cons_succ])
 go_cut [20] (fun v20 wc=>∃ (kq:Nat) (x20_7:Bool),v20 = .bool x20_7∧Aside0 (spec_Extend.j0 kq l1 l3 y16 x20_7 a2_0 a2_1 t4 t7 t8=some (r1,r2,r3,r4))∧Aside0 (kq≤k)∧Aside0 (Kd.R Kd.string 9 wc w.heap.size (fun k_=>some k_ ≠ ((.slice Ao17 t4.length co17):Value).ownBlock) v17 y16)∧Aside0 (Kd.R Kd.string 9 wc w.heap.size (fun k_=>some k_ ≠ (v17:Value).ownBlock) (.slice Ao17 t4.length co17) t4)∧Aside0 (wc.heap[gb1]?=some (.cells #[(.slice A0_0 l0_0.length c0_0),.int .i64 a0_1,.string a0_2] 39 (0,0)))∧Aside0 (wc.heap[gb2]?=some (.cells #[.int .i64 a2_0,.string a2_1] 37 (0,0)))∧Aside0 (wc.heap[gb3]?=some (.cells #[(.slice none 0 0),.int .i64 0,.string (⟨#[]⟩:ByteArray)] 39 (0,0)))∧Aside0 (wc.heap[gb9]?=some (.cells #[(.slice Ao17 t4.length co17),.int .i64 t7,.string t8] 39 (0,0)))∧Aside0 (Below w.heap.size w wc))
 case first =>
  have H:=HC8.out
  clear HC8
  replace H:=bi_ H;obtain ⟨t19,A27,H⟩:=H
  replace H:=itb_ H;obtain ⟨rfl,H⟩|⟨rfl,H⟩:=H
  ·replace H:=bi_ H;obtain ⟨t20,A29,H⟩:=H
   replace H:=itb_ H;obtain ⟨rfl,H⟩|⟨rfl,H⟩:=H
   ·have H':=am_ H
    clear H
    have hnb31:=NB1_2.out
    have hnc31:=NB2_1.out
    have hnb32:=NB1_3.out
    have hnc32:=NB3_1.out
    have hnb33:=NB1_9.out
    have hnc33:=NB9_1.out
    have hz34:=cz3_ BK1
    go_wp2_with (first|((with_reducible refine gq_ 107 22 ?_);refine gc_ 22 Tryz.func107 (spec_LogOk.calls k _ _ l0_0 a0_1 a0_2 true _ (cb_ HR0_0 HB) HC0_0.out A27.out) ?_;rintro e w35 ⟨rfl,hb⟩;refine ⟨_,rfl,?_⟩;replace HO6:=rb_ HO6 hb;replace HO18:=rb_ HO18 hb;replace BK1:=kl_ BK1 hb;replace BK2:=kl_ BK2 hb;replace BK3:=kl_ BK3 hb;replace BK9:=kl_ BK9 hb;replace HB:=ss_ HB hb;clear hb;have hnb36:=NB2_3.out;have hnc36:=NB3_2.out;have hnb37:=NB2_9.out;have hnc37:=NB9_2.out;have hz38:=cz2_ BK2)|(go_at_call 74;(with_reducible refine (spec_HeadOk.calls a2_0 a2_1 true _ A29.out).mono ?_);rintro e w39 ⟨rfl,hb⟩;replace HO6:=rb_ HO6 hb;replace HO18:=rb_ HO18 hb;replace BK1:=kl_ BK1 hb;replace BK2:=kl_ BK2 hb;replace BK3:=kl_ BK3 hb;replace BK9:=kl_ BK9 hb;replace HB:=ss_ HB hb;clear hb;have hz40:=cz2_ BK2;obtain ⟨Ao41,co41,eo41⟩:=Kd.R_slice HO18.out;subst eo41))
    go_meet
    case rel => exact ⟨_,((a2_0 != (y16.length:Int))),e1_,H',⟨le_⟩,⟨kr_ HO18.out⟩,⟨kr_ (Kd.R_mono HO6.out (fun _ hk=>hk.2))⟩,⟨kb_ BK1.out⟩,⟨kb_ BK2.out⟩,⟨kb_ BK3.out⟩,⟨kb_ BK9.out⟩,⟨bw_ HB⟩⟩
   ·have H':=am_ H
    clear H
    have hnb42:=NB1_2.out
    have hnc42:=NB2_1.out
    have hnb43:=NB1_3.out
    have hnc43:=NB3_1.out
    have hnb44:=NB1_9.out
    have hnc44:=NB9_1.out
    have hz45:=cz3_ BK1
    go_wp2_with (first|((with_reducible refine gq_ 107 22 ?_);refine gc_ 22 Tryz.func107 (spec_LogOk.calls k _ _ l0_0 a0_1 a0_2 true _ (cb_ HR0_0 HB) HC0_0.out A27.out) ?_;rintro e w46 ⟨rfl,hb⟩;refine ⟨_,rfl,?_⟩;replace HO6:=rb_ HO6 hb;replace HO18:=rb_ HO18 hb;replace BK1:=kl_ BK1 hb;replace BK2:=kl_ BK2 hb;replace BK3:=kl_ BK3 hb;replace BK9:=kl_ BK9 hb;replace HB:=ss_ HB hb;clear hb;have hnb47:=NB2_3.out;have hnc47:=NB3_2.out;have hnb48:=NB2_9.out;have hnc48:=NB9_2.out;have hz49:=cz2_ BK2)|(go_at_call 74;(with_reducible refine (spec_HeadOk.calls a2_0 a2_1 false _ A29.out).mono ?_);rintro e w50 ⟨rfl,hb⟩;replace HO6:=rb_ HO6 hb;replace HO18:=rb_ HO18 hb;replace BK1:=kl_ BK1 hb;replace BK2:=kl_ BK2 hb;replace BK3:=kl_ BK3 hb;replace BK9:=kl_ BK9 hb;replace HB:=ss_ HB hb;clear hb))
    go_meet
    case rel => exact ⟨_,(true),e1_,H',⟨le_⟩,⟨kr_ HO18.out⟩,⟨kr_ (Kd.R_mono HO6.out (fun _ hk=>hk.2))⟩,⟨kb_ BK1.out⟩,⟨kb_ BK2.out⟩,⟨kb_ BK3.out⟩,⟨kb_ BK9.out⟩,⟨bw_ HB⟩⟩
  ·have H':=am_ H
   clear H
   have hnb51:=NB1_2.out
   have hnc51:=NB2_1.out
   have hnb52:=NB1_3.out
   have hnc52:=NB3_1.out
   have hnb53:=NB1_9.out
   have hnc53:=NB9_1.out
   have hz54:=cz3_ BK1
   go_wp2_with (first|((with_reducible refine gq_ 107 22 ?_);refine gc_ 22 Tryz.func107 (spec_LogOk.calls k _ _ l0_0 a0_1 a0_2 false _ (cb_ HR0_0 HB) HC0_0.out A27.out) ?_;rintro e w55 ⟨rfl,hb⟩;refine ⟨_,rfl,?_⟩;replace HO6:=rb_ HO6 hb;replace HO18:=rb_ HO18 hb;replace BK1:=kl_ BK1 hb;replace BK2:=kl_ BK2 hb;replace BK3:=kl_ BK3 hb;replace BK9:=kl_ BK9 hb;replace HB:=ss_ HB hb;clear hb))
   go_meet
   case rel => exact ⟨_,(true),e1_,H',⟨le_⟩,⟨kr_ HO18.out⟩,⟨kr_ (Kd.R_mono HO6.out (fun _ hk=>hk.2))⟩,⟨kb_ BK1.out⟩,⟨kb_ BK2.out⟩,⟨kb_ BK3.out⟩,⟨kb_ BK9.out⟩,⟨bw_ HB⟩⟩
 case rest =>
  clear HC8
  try clear c6
  try clear c7
  try clear hz14
  try clear hz21
  try clear hz24
  obtain ⟨kq,x20_7,rfl,HA,HJ7,HO_11,HO_10000,BK1,BK2,BK3,BK9,HB⟩:=hcut
  cases kq with
  | zero=>exact absurd HA.out (by simp [spec_Extend.j0])
  | succ kj7 =>
   have H:=HA.out
   clear HA
   simp only [spec_Extend.j0] at H
   replace H:=itb_ H;obtain ⟨rfl,H⟩|⟨rfl,H⟩:=H
   ·replace H:=so4_ H;obtain ⟨rfl,rfl,rfl,rfl⟩:=H
    have hnb57:=NB9_1.out
    have hnc57:=NB1_9.out
    have hnb58:=NB9_2.out
    have hnc58:=NB2_9.out
    have hnb59:=NB9_3.out
    have hnc59:=NB3_9.out
    have hz60:=cz3_ BK9
    have hnb61:=NB3_1.out
    have hnc61:=NB1_3.out
    have hnb62:=NB3_2.out
    have hnc62:=NB2_3.out
    have hz63:=cz3_ BK3
    go_wp2
    refine bodyPost_ret (rct_ gb3 39 #[.slice Ao17 t4.length co17,.int .i64 t7,.string t8] BK3 Tryz.underlying39) rfl ?_
    exact ⟨_,e2_,kfm_ HO_10000 BK3,bw_ HB⟩
   ·replace H:=bi_ H;obtain ⟨t21,A64,H⟩:=H
    replace H:=itb_ H;obtain ⟨rfl,H⟩|⟨rfl,H⟩:=H
    ·replace H:=it_ H;obtain ⟨c66,H⟩|⟨c66,H⟩:=H
     ·have c66b0:((l3.length:Int) == 0)=true:=beq_iff_eq.mpr c66
      have c66b1:((l3.length:Int) != 0)=false:=bne_eq_false_iff_eq.mpr c66
      clear c66
      replace H:=so4_ H;obtain ⟨rfl,rfl,rfl,rfl⟩:=H
      have hnb67:=NB2_1.out
      have hnc67:=NB1_2.out
      have hnb68:=NB2_3.out
      have hnc68:=NB3_2.out
      have hnb69:=NB2_9.out
      have hnc69:=NB9_2.out
      have hz70:=cz2_ BK2
      go_wp2_with (first|((with_reducible refine gq_ 111 40 ?_);refine gc_ 40 Tryz.func111 (spec_IsSigned.calls kj7 _ _ l1 a2_0 a2_1 true _ (cb_ HR1 HB) HC1.out A64.out) ?_;rintro e w71 ⟨rfl,hb⟩;refine ⟨_,rfl,?_⟩;replace HO_11:=rb_ HO_11 hb;replace HO_10000:=rb_ HO_10000 hb;replace BK2:=kl_ BK2 hb;replace BK3:=kl_ BK3 hb;replace BK9:=kl_ BK9 hb;replace HB:=ss_ HB hb;clear hb;have hnb72:=NB9_1.out;have hnc72:=NB1_9.out;have hnb73:=NB9_3.out;have hnc73:=NB3_9.out;have hz74:=cz3_ BK9;have hnb75:=NB3_1.out;have hnc75:=NB1_3.out;have hz76:=cz3_ BK3))
      refine bodyPost_ret (rct_ gb3 39 #[.slice Ao17 t4.length co17,.int .i64 t7,.string t8] BK3 Tryz.underlying39) rfl ?_
      exact ⟨_,e2_,kfm_ HO_10000 BK3,bw_ HB⟩
     ·have c66b0:((l3.length:Int) == 0)=false:=beq_eq_false_iff_ne.mpr c66
      have c66b1:((l3.length:Int) != 0)=true:=bne_iff_ne.mpr c66
      have c66b2:¬ (l3=[]):=fun h_=>c66 (by rw [h_];rfl)
      replace H:=bi_ H;obtain ⟨⟨t22,t23⟩,A77,H⟩:=H
      dsimp only at H
      replace H:=it_ H;obtain ⟨c78,H⟩|⟨c78,H⟩:=H
      ·have c78b0:(!(a2_0 == t22) || (!(a2_1.toList == t23.toList)))=true:=c78
       clear c78
       replace H:=so4_ H;obtain ⟨rfl,rfl,rfl,rfl⟩:=H
       have hnb79:=NB2_1.out
       have hnc79:=NB1_2.out
       have hnb80:=NB2_3.out
       have hnc80:=NB3_2.out
       have hnb81:=NB2_9.out
       have hnc81:=NB9_2.out
       have hz82:=cz2_ BK2
       try go_wp2_with (first|((with_reducible refine gq_ 111 40 ?_);refine gc_ 40 Tryz.func111 (spec_IsSigned.calls kj7 _ _ l1 a2_0 a2_1 true _ (cb_ HR1 HB) HC1.out A64.out) ?_;rintro e w83 ⟨rfl,hb⟩;refine ⟨_,rfl,?_⟩;replace HO_11:=rb_ HO_11 hb;replace HO_10000:=rb_ HO_10000 hb;replace BK2:=kl_ BK2 hb;replace BK3:=kl_ BK3 hb;replace BK9:=kl_ BK9 hb;replace HB:=ss_ HB hb;clear hb))
       replace HO_11:=am_ (Kd.R_drew HO_11.out)
       replace HO_10000:=am_ (Kd.R_drew HO_10000.out)
       replace BK2:=bd_ BK2
       replace BK3:=bd_ BK3
       replace BK9:=bd_ BK9
       replace HB:=hd_ HB
       obtain ⟨Ao85,co85,eo85⟩:=Kd.R_slice HO_11.out
       subst eo85
       refine start_ (n:=5) (S:=fun w'=>w'.cell? ⟨gb2,0,none⟩=some (.int .i64 a2_0)∧w'.cell? ⟨gb2,1,none⟩=some (.string a2_1)) (ds:=[]) (lz_ 5 0) (by kernel_rfl) rfl rfl ⟨bc0_ BK2.out,bc1_ BK2.out⟩ (fun hHeld=>?_)
       generalize w83.drew=w84 at HO_11 HO_10000 BK1 BK2 BK3 BK9 HB hHeld ⊢
       refine pk_ 1 50 2 ?_
       refine tk_ 0 49 3 ?_
       refine one_ (i:=2) (N:=some 51) (lz_ 5 7) rfl rfl (by kernel_rfl) (by decide) (fun K hK=>?_)
       refine gf_ Tryz.func110 (spec_HeadOf.calls kj7 _ _ y16 t22 t23 _ (ch_ HO_11) (cl_ HO_11) A77.out) ?_
       rintro e w86 ⟨rfl,hb⟩
       refine ⟨_,rfl,?_⟩
       replace HO_11:=rb_ HO_11 hb
       replace HO_10000:=rb_ HO_10000 hb
       replace BK2:=kl_ BK2 hb
       replace BK3:=kl_ BK3 hb
       replace BK9:=kl_ BK9 hb
       replace HB:=ss_ HB hb
       clear hb
       refine hK.out _ _ ⟨bc0_ BK2.out,bc1_ BK2.out⟩ (fun hHeld=>?_)
       clear hK K
       refine no_ 51 ?_
       refine pk_ 3 52 15 ?_
       refine pk_ 4 48 31 ?_
       refine done_ (by kernel_rfl) ?_
       have hnb87:=NB9_1.out
       have hnc87:=NB1_9.out
       have hnb88:=NB9_3.out
       have hnc88:=NB3_9.out
       have hz89:=cz3_ BK9
       have hnb90:=NB3_1.out
       have hnc90:=NB1_3.out
       have hz91:=cz3_ BK3
       try go_wp2
       refine bodyPost_ret (rct_ gb3 39 #[.slice Ao17 t4.length co17,.int .i64 t7,.string t8] BK3 Tryz.underlying39) rfl ?_
       exact ⟨_,e2_,kfm_ HO_10000 BK3,bw_ HB⟩
      ·have c78b0:(!(a2_0 == t22) || (!(a2_1.toList == t23.toList)))=false:=by simpa using c78
       clear c78
       replace H:=so4_ H;obtain ⟨rfl,rfl,rfl,rfl⟩:=H
       have hnb92:=NB2_1.out
       have hnc92:=NB1_2.out
       have hnb93:=NB2_3.out
       have hnc93:=NB3_2.out
       have hnb94:=NB2_9.out
       have hnc94:=NB9_2.out
       have hz95:=cz2_ BK2
       try go_wp2_with (first|((with_reducible refine gq_ 111 40 ?_);refine gc_ 40 Tryz.func111 (spec_IsSigned.calls kj7 _ _ l1 a2_0 a2_1 true _ (cb_ HR1 HB) HC1.out A64.out) ?_;rintro e w96 ⟨rfl,hb⟩;refine ⟨_,rfl,?_⟩;replace HO_11:=rb_ HO_11 hb;replace HO_10000:=rb_ HO_10000 hb;replace BK2:=kl_ BK2 hb;replace BK3:=kl_ BK3 hb;replace BK9:=kl_ BK9 hb;replace HB:=ss_ HB hb;clear hb))
       replace HO_11:=am_ (Kd.R_drew HO_11.out)
       replace HO_10000:=am_ (Kd.R_drew HO_10000.out)
       replace BK2:=bd_ BK2
       replace BK3:=bd_ BK3
       replace BK9:=bd_ BK9
       replace HB:=hd_ HB
       obtain ⟨Ao98,co98,eo98⟩:=Kd.R_slice HO_11.out
       subst eo98
       refine start_ (n:=5) (S:=fun w'=>w'.cell? ⟨gb2,0,none⟩=some (.int .i64 a2_0)∧w'.cell? ⟨gb2,1,none⟩=some (.string a2_1)) (ds:=[]) (lz_ 5 0) (by kernel_rfl) rfl rfl ⟨bc0_ BK2.out,bc1_ BK2.out⟩ (fun hHeld=>?_)
       generalize w96.drew=w97 at HO_11 HO_10000 BK1 BK2 BK3 BK9 HB hHeld ⊢
       refine pk_ 1 50 2 ?_
       refine tk_ 0 49 3 ?_
       refine one_ (i:=2) (N:=some 51) (lz_ 5 7) rfl rfl (by kernel_rfl) (by decide) (fun K hK=>?_)
       refine gf_ Tryz.func110 (spec_HeadOf.calls kj7 _ _ y16 t22 t23 _ (ch_ HO_11) (cl_ HO_11) A77.out) ?_
       rintro e w99 ⟨rfl,hb⟩
       refine ⟨_,rfl,?_⟩
       replace HO_11:=rb_ HO_11 hb
       replace HO_10000:=rb_ HO_10000 hb
       replace BK2:=kl_ BK2 hb
       replace BK3:=kl_ BK3 hb
       replace BK9:=kl_ BK9 hb
       replace HB:=ss_ HB hb
       clear hb
       refine hK.out _ _ ⟨bc0_ BK2.out,bc1_ BK2.out⟩ (fun hHeld=>?_)
       clear hK K
       refine no_ 51 ?_
       refine pk_ 3 52 15 ?_
       refine pk_ 4 48 31 ?_
       refine done_ (by kernel_rfl) ?_
       have hz100:=cz2_ BK2
       have hnb101:=NB3_1.out
       have hnc101:=NB1_3.out
       have hnb102:=NB3_9.out
       have hnc102:=NB9_3.out
       have hz103:=cz3_ BK3
       try go_wp2
       refine bodyPost_ret (rct_ gb3 39 #[.slice Ao98 y16.length co98,.int .i64 a2_0,.string a2_1] BK3 Tryz.underlying39) rfl ?_
       exact ⟨_,e2_,kfm_ HO_11 BK3,bw_ HB⟩
    ·replace H:=so4_ H;obtain ⟨rfl,rfl,rfl,rfl⟩:=H
     have hnb104:=NB2_1.out
     have hnc104:=NB1_2.out
     have hnb105:=NB2_3.out
     have hnc105:=NB3_2.out
     have hnb106:=NB2_9.out
     have hnc106:=NB9_2.out
     have hz107:=cz2_ BK2
     go_wp2_with (first|((with_reducible refine gq_ 111 40 ?_);refine gc_ 40 Tryz.func111 (spec_IsSigned.calls kj7 _ _ l1 a2_0 a2_1 false _ (cb_ HR1 HB) HC1.out A64.out) ?_;rintro e w108 ⟨rfl,hb⟩;refine ⟨_,rfl,?_⟩;replace HO_10000:=rb_ HO_10000 hb;replace BK3:=kl_ BK3 hb;replace BK9:=kl_ BK9 hb;replace HB:=ss_ HB hb;clear hb;have hnb109:=NB9_1.out;have hnc109:=NB1_9.out;have hnb110:=NB9_3.out;have hnc110:=NB3_9.out;have hz111:=cz3_ BK9;have hnb112:=NB3_1.out;have hnc112:=NB1_3.out;have hz113:=cz3_ BK3))
     refine bodyPost_ret (rct_ gb3 39 #[.slice Ao17 t4.length co17,.int .i64 t7,.string t8] BK3 Tryz.underlying39) rfl ?_
     exact ⟨_,e2_,kfm_ HO_10000 BK3,bw_ HB⟩
end
def impl_copyStore.f (l0_0:List ByteArray) (a0_1:Int) (a0_2:ByteArray) (l0_3:List Int) (a0_4:Int):Option (List ByteArray × Int × ByteArray × List Int × Int):=(impl_copyLog.f l0_0 a0_1 a0_2).bind fun bt3=>((slices_Clone_byte_byte.f l0_3).bind fun t8=>(some (bt3.1,bt3.2.1,bt3.2.2,t8,a0_4)))
def impl_copyStore.T1:Bool × List (List Nat × List Nat):=(true,[([],[]),([0],[0]),([1],[1]),([],[]),([3],[3]),([4,2],[4]),([],[]),([6],[6]),([2,5,7],[2,5,7]),([8,5,0,1,2,3,4,5,6,7,8],[8])])
def impl_copyStore.B1:List Nat:=[0,1,3,0,8,31,0,64,255,511]
theorem impl_copyStore.tab1:rtab .any (opsOf Tryz.f90 1)=impl_copyStore.T1:=by kernel_rfl
theorem impl_copyStore.bits1:waitsOk impl_copyStore.T1.2 impl_copyStore.B1=true:=by kernel_rfl
theorem impl_copyStore.calls (A0_0:Option Addr) (c0_0:Nat) (l0_0:List ByteArray) (a0_1:Int) (a0_2:ByteArray) (A0_3:Option Addr) (c0_3:Nat) (l0_3:List Int) (a0_4:Int) (r1:List ByteArray) (r2:Int) (r3:ByteArray) (r4:List Int) (r5:Int) (w:World) (hr0_0:Kd.C Kd.string w A0_0 l0_0.length l0_0) (hc0_0:l0_0.length≤c0_0) (hr0_3:Kd.C (Kd.int .u8) w A0_3 l0_3.length l0_3) (hc0_3:l0_3.length≤c0_3) (h:impl_copyStore.f l0_0 a0_1 a0_2 l0_3 a0_4=some (r1,r2,r3,r4,r5)) :
  Calls Tryz.prog 90 #[.agg #[.slice A0_0 l0_0.length c0_0,.int .i64 a0_1,.string a0_2,.slice A0_3 l0_3.length c0_3,.int .i64 a0_4]] w fun e w'=>∃ v0_ v3_:Value,e = .returned (.agg #[v0_,.int .i64 r2,.string r3,v3_,.int .i64 r5])∧Kd.R Kd.string 9 w' w.heap.size (fun _=>True) v0_ r1∧Kd.R (Kd.int .u8) 5 w' w.heap.size (fun _=>True) v3_ r4∧Below w.heap.size w w':=by
 have hu41:=Tryz.underlying41
 have hu39:=Tryz.underlying39
 have HR0_0:=am_ hr0_0
 have HC0_0:=am_ hc0_0
 clear hr0_0 hc0_0
 have HR0_3:=am_ hr0_3
 have HC0_3:=am_ hc0_3
 clear hr0_3 hc0_3
 have HB:=h0_ w
 have H:((impl_copyLog.f l0_0 a0_1 a0_2).bind fun bt3=>((slices_Clone_byte_byte.f l0_3).bind fun t8=>(some (bt3.1,bt3.2.1,bt3.2.2,t8,a0_4))))=some (r1,r2,r3,r4,r5):=h
 clear h
 replace H:=bi_ H;obtain ⟨⟨t3,t6,t7⟩,A2,H⟩:=H
 dsimp only at H
 replace H:=bi_ H;obtain ⟨t8,A3,H⟩:=H
 replace H:=so5_ H;obtain ⟨rfl,rfl,rfl,rfl,rfl⟩:=H
 go_enter Tryz.func90,Tryz.ntmps90
 try go_wp2_with (first|((with_reducible refine gd_ 1 ?_);refine bx_ 1 41 #[.slice A0_0 l0_0.length c0_0,.int .i64 a0_1,.string a0_2,.slice A0_3 l0_3.length c0_3,.int .i64 a0_4] (hx_ HB ?_);clear HB;intro gb1 w4 BK1 GW1 HB;have GE1:=GW1)|((with_reducible refine gd_ 2 ?_);refine x41_ 2 ?_;intro gb2 hg w5 hbox hb;have BK2:=am_ hbox;have GW2:=gg_ hg HB;have GE2:=GW2;replace HB:=ss_ HB hb;have NB1_2:=nla_ hg BK1;have NB2_1:=nga_ hg BK1;replace BK1:=kl_ BK1 hb;clear hb hbox hg))
 replace BK1:=bd_ BK1
 replace BK2:=bd_ BK2
 replace HB:=hd_ HB
 refine sw_ 10 (fun w'=>w'.cell? ⟨gb1,0,none⟩=some (.slice A0_0 l0_0.length c0_0)∧w'.cell? ⟨gb1,1,none⟩=some (.int .i64 a0_1)∧w'.cell? ⟨gb1,2,none⟩=some (.string a0_2)∧w'.cell? ⟨gb1,3,none⟩=some (.slice A0_3 l0_3.length c0_3)∧w'.cell? ⟨gb1,4,none⟩=some (.int .i64 a0_4)) [] impl_copyStore.tab1 impl_copyStore.bits1 ⟨bc0_ BK1.out,bc1_ BK1.out,bc2_ BK1.out,bc3_ BK1.out,bc4_ BK1.out⟩ (fun hHeld HT_ HW_=>?_)
 generalize w5.drew=w6 at BK1 BK2 HB hHeld ⊢
 refine pt_ 0 3 1 ?_
 refine pt_ 3 6 9 ?_
 refine pt_ 6 9 73 ?_
 refine tt_ 1 4 75 ?_
 refine tt_ 4 7 91 ?_
 refine tt_ 7 10 219 ?_
 refine oz_ 2 5 10 223 (fun K hK=>?_)
 refine gf_ Tryz.func121 (impl_copyLog.calls _ _ l0_0 a0_1 a0_2 t3 t6 t7 _ (cb_ HR0_0 HB) HC0_0.out A2.out) ?_
 rintro e w7 ⟨v4,rfl,ho0,hb⟩
 refine ⟨_,rfl,?_⟩
 have HO5:=rlo_ ho0 HB
 replace BK1:=kl_ BK1 hb
 replace BK2:=kl_ BK2 hb
 replace HB:=ss_ HB hb
 clear hb ho0
 refine hK.out _ _ ⟨bc0_ BK1.out,bc1_ BK1.out,bc2_ BK1.out,bc3_ BK1.out,bc4_ BK1.out⟩ (fun hHeld=>?_)
 clear hK K
 refine no_ 5 ?_
 refine oz_ 5 8 10 255 (fun K hK=>?_)
 refine gf_ Tryz.func122 (slices_Clone_byte_byte.calls _ _ l0_3 t8 _ (cb_ HR0_3 HB) HC0_3.out A3.out) ?_
 rintro e w8 ⟨v9,rfl,ho0,hb⟩
 refine ⟨_,rfl,?_⟩
 replace HO5:=rb_ HO5 hb
 have HO10:=rlo_ ho0 HB
 replace BK1:=kl_ BK1 hb
 replace BK2:=kl_ BK2 hb
 replace HB:=ss_ HB hb
 clear hb ho0
 obtain ⟨Ao9,co9,eo9⟩:=Kd.R_slice HO10.out
 subst eo9
 obtain ⟨Ao10,co10,eo10⟩:=Kd.R_slice HO5.out
 subst eo10
 refine hK.out _ _ ⟨bc0_ BK1.out,bc1_ BK1.out,bc2_ BK1.out,bc3_ BK1.out,bc4_ BK1.out⟩ (fun hHeld=>?_)
 clear hK K
 refine no_ 8 ?_
 refine pt_ 8 11 511 ?_
 refine one_ (i:=9) (N:=none) (lz_ 10 1023) rfl rfl (one_of HT_.out (by kernel_rfl)) (by decide) (fun K hK=>?_)
 have hs11:=bc0_ BK2.out
 have hfs11:=blk_frozen BK2.out 0
 have hns11_0:=NB1_2.out
 have hms11_0:=NB2_1.out
 have hs12:=bc1_ BK2.out
 have hfs12:=blk_frozen BK2.out 1
 have hns12_0:=NB1_2.out
 have hms12_0:=NB2_1.out
 have hs13:=bc2_ BK2.out
 have hfs13:=blk_frozen BK2.out 2
 have hns13_0:=NB1_2.out
 have hms13_0:=NB2_1.out
 have hs14:=bc3_ BK2.out
 have hfs14:=blk_frozen BK2.out 3
 have hns14_0:=NB1_2.out
 have hms14_0:=NB2_1.out
 have hs15:=bc4_ BK2.out
 have hfs15:=blk_frozen BK2.out 4
 have hns15_0:=NB1_2.out
 have hms15_0:=NB2_1.out
 refine skip_ (w1:=?_) (by rfl) rfl ?_ ?_
 rotate_left
 ·go_simp
  rfl
 refine hK.out _ _ ⟨(cf_ NB1_2 hHeld.1),(cf_ NB1_2 hHeld.2.1),(cf_ NB1_2 hHeld.2.2.1),(cf_ NB1_2 hHeld.2.2.2.1),(cf_ NB1_2 hHeld.2.2.2.2)⟩ (fun hHeld=>?_)
 clear hK K
 refine dn_ ?_
 try go_wp2
 refine bodyPost_ret (rcr_ gb2 41 #[.slice Ao10 t3.length co10,.int .i64 t6,.string t7,.slice Ao9 t8.length co9,.int .i64 a0_4] BK2 Tryz.underlying41) rfl ?_
 exact ⟨_,_,e2_,kfm_ HO5 BK2,kfm_ HO10 BK2,bw_ HB⟩
def spec_l12Copy.f (l0_0:List ByteArray) (a0_1:Int) (a0_2:ByteArray) (l0_3:List Int) (a0_4:Int):Option (List ByteArray × Int × ByteArray × List Int × Int):=(spec_l11Copy.f l0_0 a0_1 a0_2).bind fun bt3=>((some (([]:List Int):List Int)).bind fun y8=>(if y8.length+l0_3.length < 140737488355328 then (some (bt3.1,bt3.2.1,bt3.2.2,(y8 ++ l0_3),a0_4)) else (none)))
def spec_l12Copy.T1:Bool × List (List Nat × List Nat):=(true,[([],[]),([0],[0]),([1],[1]),([],[]),([],[]),([4],[4]),([3,5,2],[3,5]),([],[]),([7],[7]),([2,6,8],[2,6,8]),([9,6,0,1,2,3,4,5,6,7,8,9],[9])])
def spec_l12Copy.B1:List Nat:=[0,1,3,0,0,16,63,0,128,511,1023]
theorem spec_l12Copy.tab1:rtab .any (opsOf Tryz.f93 1)=spec_l12Copy.T1:=by kernel_rfl
theorem spec_l12Copy.bits1:waitsOk spec_l12Copy.T1.2 spec_l12Copy.B1=true:=by kernel_rfl
theorem spec_l12Copy.calls (A0_0:Option Addr) (c0_0:Nat) (l0_0:List ByteArray) (a0_1:Int) (a0_2:ByteArray) (A0_3:Option Addr) (c0_3:Nat) (l0_3:List Int) (a0_4:Int) (r1:List ByteArray) (r2:Int) (r3:ByteArray) (r4:List Int) (r5:Int) (w:World) (hr0_0:Kd.C Kd.string w A0_0 l0_0.length l0_0) (hc0_0:l0_0.length≤c0_0) (hr0_3:Kd.C (Kd.int .u8) w A0_3 l0_3.length l0_3) (hc0_3:l0_3.length≤c0_3) (h:spec_l12Copy.f l0_0 a0_1 a0_2 l0_3 a0_4=some (r1,r2,r3,r4,r5)) :
  Calls Tryz.prog 93 #[.agg #[.slice A0_0 l0_0.length c0_0,.int .i64 a0_1,.string a0_2,.slice A0_3 l0_3.length c0_3,.int .i64 a0_4]] w fun e w'=>∃ v0_ v3_:Value,e = .returned (.agg #[v0_,.int .i64 r2,.string r3,v3_,.int .i64 r5])∧Kd.R Kd.string 9 w' w.heap.size (fun _=>True) v0_ r1∧Kd.R (Kd.int .u8) 5 w' w.heap.size (fun _=>True) v3_ r4∧Below w.heap.size w w':=by
 have hu41:=Tryz.underlying41
 have hu39:=Tryz.underlying39
 have HR0_0:=am_ hr0_0
 have HC0_0:=am_ hc0_0
 clear hr0_0 hc0_0
 have HR0_3:=am_ hr0_3
 have HC0_3:=am_ hc0_3
 clear hr0_3 hc0_3
 have HB:=h0_ w
 have H:((spec_l11Copy.f l0_0 a0_1 a0_2).bind fun bt3=>((some (([]:List Int):List Int)).bind fun y8=>(if y8.length+l0_3.length < 140737488355328 then (some (bt3.1,bt3.2.1,bt3.2.2,(y8 ++ l0_3),a0_4)) else (none))))=some (r1,r2,r3,r4,r5):=h
 clear h
 replace H:=bi_ H;obtain ⟨⟨t3,t6,t7⟩,A2,H⟩:=H
 dsimp only at H
 obtain ⟨y8,Ny8,H⟩:=sb_ (([]:List Int)) H
 replace H:=ip_ H;obtain ⟨c3,H⟩:=H
 have LMc3:=am_ c3
 clear c3
 obtain ⟨y11,hy11⟩:∃ y_:List Int,y_=(y8 ++ l0_3):=⟨_,rfl⟩
 replace H:(some (t3,t6,t7,y11,a0_4))=some (r1,r2,r3,r4,r5):=yh_ hy11 H
 have Ny11:=am_ hy11
 clear hy11
 replace H:=so5_ H;obtain ⟨rfl,rfl,rfl,rfl,rfl⟩:=H
 go_enter Tryz.func93,Tryz.ntmps93
 try go_wp2_with (first|((with_reducible refine gd_ 1 ?_);refine bx_ 1 41 #[.slice A0_0 l0_0.length c0_0,.int .i64 a0_1,.string a0_2,.slice A0_3 l0_3.length c0_3,.int .i64 a0_4] (hx_ HB ?_);clear HB;intro gb1 w4 BK1 GW1 HB;have GE1:=GW1)|((with_reducible refine gd_ 2 ?_);refine x41_ 2 ?_;intro gb2 hg w5 hbox hb;have BK2:=am_ hbox;have GW2:=gg_ hg HB;have GE2:=GW2;replace HB:=ss_ HB hb;have NB1_2:=nla_ hg BK1;have NB2_1:=nga_ hg BK1;replace BK1:=kl_ BK1 hb;clear hb hbox hg))
 replace BK1:=bd_ BK1
 replace BK2:=bd_ BK2
 replace HB:=hd_ HB
 refine sw_ 11 (fun w'=>w'.cell? ⟨gb1,0,none⟩=some (.slice A0_0 l0_0.length c0_0)∧w'.cell? ⟨gb1,1,none⟩=some (.int .i64 a0_1)∧w'.cell? ⟨gb1,2,none⟩=some (.string a0_2)∧w'.cell? ⟨gb1,3,none⟩=some (.slice A0_3 l0_3.length c0_3)∧w'.cell? ⟨gb1,4,none⟩=some (.int .i64 a0_4)) [] spec_l12Copy.tab1 spec_l12Copy.bits1 ⟨bc0_ BK1.out,bc1_ BK1.out,bc2_ BK1.out,bc3_ BK1.out,bc4_ BK1.out⟩ (fun hHeld HT_ HW_=>?_)
 generalize w5.drew=w6 at BK1 BK2 HB hHeld ⊢
 refine pt_ 0 3 1 ?_
 refine pt_ 4 7 17 ?_
 refine pt_ 7 10 145 ?_
 refine tt_ 1 4 147 ?_
 refine tt_ 5 8 179 ?_
 refine tt_ 8 11 435 ?_
 refine join_ (σ:=Value × Value) 3 (lz_ 11 447) (fun s_=>[(5,.agg #[s_.1,.int .i64 t6,.string t7]),(6,s_.2)]) (fun s_ w'=>(w'.cell? ⟨gb1,0,none⟩=some (.slice A0_0 l0_0.length c0_0)∧w'.cell? ⟨gb1,1,none⟩=some (.int .i64 a0_1)∧w'.cell? ⟨gb1,2,none⟩=some (.string a0_2)∧w'.cell? ⟨gb1,3,none⟩=some (.slice A0_3 l0_3.length c0_3)∧w'.cell? ⟨gb1,4,none⟩=some (.int .i64 a0_4))∧(Kd.R Kd.string 9 w' w.heap.size (fun _=>True) s_.1 t3)∧(Kd.R (Kd.int .u8) 5 w' w.heap.size (fun _=>True) s_.2 y8)∧(w'.heap[gb1]?=some (.cells #[.slice A0_0 l0_0.length c0_0,.int .i64 a0_1,.string a0_2,.slice A0_3 l0_3.length c0_3,.int .i64 a0_4] 41 (0,0)))∧(w'.heap[gb2]?=some (.cells #[.slice none 0 0,.int .i64 0,.string (⟨#[]⟩:ByteArray),.slice none 0 0,.int .i64 0] 41 (0,0)))∧(Below w.heap.size w w')) ?_ ?_
 rotate_left
 ·intro hCont
  refine two_ (i:=2) (j:=3) (Ni:=some 5) (Nj:=some 6) (lz_ 11 439) (lz_ 11 443) rfl rfl rfl rfl (two_of HT_.out (by kernel_rfl)) (by decide) (by decide) (fun K hK=>?_) (fun K hK=>?_)
  ·skip
   refine gf_ Tryz.func125 (spec_l11Copy.calls _ _ l0_0 a0_1 a0_2 t3 t6 t7 _ (cb_ HR0_0 HB) HC0_0.out A2.out) ?_
   rintro e w7 ⟨v4,rfl,ho0,hb⟩
   refine ⟨_,rfl,?_⟩
   have HO5:=rlo_ ho0 HB
   replace BK1:=kl_ BK1 hb
   replace BK2:=kl_ BK2 hb
   replace HB:=ss_ HB hb
   clear hb ho0
   refine hK.out _ _ ⟨bc0_ BK1.out,bc1_ BK1.out,bc2_ BK1.out,bc3_ BK1.out,bc4_ BK1.out⟩ (fun hHeld=>?_)
   clear hK K
   refine no_ 5 ?_
   refine oz_ 3 6 11 447 (fun K hK=>?_)
   refine Kd.R_lit_step (Kd.int .u8) _ 5 ?hg (N:=6) ?hd (xs:=([]:List Int)) (inner:=[]) (ok:=fun _=>True) (okp:=fun _=>True) ?hr ?hp (fun _ hk=>hk) trivial (Below.refl _ _) (Nat.le_refl _) (by simp) ?_;(case hd=>rfl);(case hg=>rfl);(case hr=>first|(go_simp;done)|(go_simp;rfl));(case hp=>exact (Reps.none _ _))
   intro v9 w8 ho9 hb hg_ hnew_
   clear hg_ hnew_
   (first | rw [← Ny8.out] at ho9|(simp only [Int.reduceToNat] at ho9;rw [← Ny8.out] at ho9))
   replace HO5:=rb_ HO5 hb
   have HO10:=rlo_ ho9 HB
   replace BK1:=kl_ BK1 hb
   replace BK2:=kl_ BK2 hb
   replace HB:=ss_ HB hb
   clear hb ho9
   refine hK.out _ _ ⟨bc0_ BK1.out,bc1_ BK1.out,bc2_ BK1.out,bc3_ BK1.out,bc4_ BK1.out⟩ (fun hHeld=>?_)
   clear hK K
   refine no_ 6 ?_
   exact norm_ (by simp only [putAll,Act.put,List.setIfInBounds_toArray,List.set_cons_zero,List.set_cons_succ]) (hCont (v4,v9) _ ⟨hHeld,(kr_ HO5.out),(kr_ HO10.out),(kb_ BK1.out),(kb_ BK2.out),(bw_ HB)⟩)
  ·skip
   refine Kd.R_lit_step (Kd.int .u8) _ 5 ?hg (N:=6) ?hd (xs:=([]:List Int)) (inner:=[]) (ok:=fun _=>True) (okp:=fun _=>True) ?hr ?hp (fun _ hk=>hk) trivial (Below.refl _ _) (Nat.le_refl _) (by simp) ?_;(case hd=>rfl);(case hg=>rfl);(case hr=>first|(go_simp;done)|(go_simp;rfl));(case hp=>exact (Reps.none _ _))
   intro v9 w7 ho8 hb hg_ hnew_
   clear hg_ hnew_
   (first | rw [← Ny8.out] at ho8|(simp only [Int.reduceToNat] at ho8;rw [← Ny8.out] at ho8))
   have HO10:=rlo_ ho8 HB
   replace BK1:=kl_ BK1 hb
   replace BK2:=kl_ BK2 hb
   replace HB:=ss_ HB hb
   clear hb ho8
   refine hK.out _ _ ⟨bc0_ BK1.out,bc1_ BK1.out,bc2_ BK1.out,bc3_ BK1.out,bc4_ BK1.out⟩ (fun hHeld=>?_)
   clear hK K
   refine no_ 6 ?_
   refine oz_ 2 5 11 447 (fun K hK=>?_)
   refine gf_ Tryz.func125 (spec_l11Copy.calls _ _ l0_0 a0_1 a0_2 t3 t6 t7 _ (cb_ HR0_0 HB) HC0_0.out A2.out) ?_
   rintro e w9 ⟨v4,rfl,ho0,hb⟩
   refine ⟨_,rfl,?_⟩
   replace HO10:=rb_ HO10 hb
   have HO5:=rlo_ ho0 HB
   replace BK1:=kl_ BK1 hb
   replace BK2:=kl_ BK2 hb
   replace HB:=ss_ HB hb
   clear hb ho0
   refine hK.out _ _ ⟨bc0_ BK1.out,bc1_ BK1.out,bc2_ BK1.out,bc3_ BK1.out,bc4_ BK1.out⟩ (fun hHeld=>?_)
   clear hK K
   refine no_ 5 ?_
   exact norm_ (by simp only [putAll,Act.put,List.setIfInBounds_toArray,List.set_cons_zero,List.set_cons_succ]) (hCont (v4,v9) _ ⟨hHeld,(kr_ HO5.out),(kr_ HO10.out),(kb_ BK1.out),(kb_ BK2.out),(bw_ HB)⟩)
 rintro ⟨v4,v9⟩ w10 ⟨hS_,h0_,h1_,h2_,h3_,h4_⟩
 have n0_:Aside0 (Kd.R Kd.string 9 w10 w.heap.size (fun _=>True) v4 t3):=⟨h0_⟩
 have n1_:Aside0 (Kd.R (Kd.int .u8) 5 w10 w.heap.size (fun _=>True) v9 y8):=⟨h1_⟩
 have n2_:Aside0 (w10.heap[gb1]?=some (.cells #[.slice A0_0 l0_0.length c0_0,.int .i64 a0_1,.string a0_2,.slice A0_3 l0_3.length c0_3,.int .i64 a0_4] 41 (0,0))):=⟨h2_⟩
 have n3_:Aside0 (w10.heap[gb2]?=some (.cells #[.slice none 0 0,.int .i64 0,.string (⟨#[]⟩:ByteArray),.slice none 0 0,.int .i64 0] 41 (0,0))):=⟨h3_⟩
 have n4_:Aside0 (Below w.heap.size w w10):=⟨h4_⟩
 clear BK1
 clear BK2
 clear HB
 clear h0_ h1_ h2_ h3_ h4_
 have HO5:=n0_
 have HO10:=n1_
 have BK1:=n2_
 have BK2:=n3_
 have HB:=n4_
 clear n0_ n1_ n2_ n3_ n4_
 have hHeld:w10.cell? ⟨gb1,0,none⟩=some (.slice A0_0 l0_0.length c0_0)∧w10.cell? ⟨gb1,1,none⟩=some (.int .i64 a0_1)∧w10.cell? ⟨gb1,2,none⟩=some (.string a0_2)∧w10.cell? ⟨gb1,3,none⟩=some (.slice A0_3 l0_3.length c0_3)∧w10.cell? ⟨gb1,4,none⟩=some (.int .i64 a0_4):=hS_
 refine nj_ ?_
 refine oz_ 6 9 11 511 (fun K hK=>?_)
 refine Kd.R_append_rows_step (Kd.int .u8) (w0:=w) w.heap.size (by rfl) (.tmp 6) (.tmp 8) 27 5 (.int .u8 0) 1 rfl Tryz.underlying27 info5 rfl (by decide) (by omega) v9 y8 l0_3 _ _ _ (fun _=>True) (fun _=>False) rfl rfl ?aO ?aR (fun _ _ h=>h) (fun _ h=>h.elim) ?aF ?aB ?aS ?aL ?_
 (case aR=>exact cb_ HR0_3 HB)
 (case aB=>exact (bw_ HB))
 (case aF=>exact (fun _ _=>trivial))
 (case aO=>exact (kr_ HO10.out))
 (case aS=>exact (sz_ HB))
 (case aL=>have:=LMc3.out;omega)
 intro v12 w11 ho hb hg hat
 rw [← Ny11.out] at ho
 replace BK1:=kg_ BK1 HO10 hg
 replace BK2:=kg_ BK2 HO10 hg
 replace HO5:=am_ (Kd.R_over' (kr_ HO5.out) (Kd.R_typed (kr_ HO10.out)) (by decide) hg)
 replace HB:=am_ hb
 have HO13:=am_ ho
 clear HO10
 clear ho hb hg hat
 obtain ⟨Ao12,co12,eo12⟩:=Kd.R_slice HO13.out
 subst eo12
 obtain ⟨Ao13,co13,eo13⟩:=Kd.R_slice HO5.out
 subst eo13
 refine hK.out _ _ ⟨bc0_ BK1.out,bc1_ BK1.out,bc2_ BK1.out,bc3_ BK1.out,bc4_ BK1.out⟩ (fun hHeld=>?_)
 clear hK K
 refine no_ 9 ?_
 refine pt_ 9 12 1023 ?_
 refine one_ (i:=10) (N:=none) (lz_ 11 2047) rfl rfl (one_of HT_.out (by kernel_rfl)) (by decide) (fun K hK=>?_)
 have hs14:=bc0_ BK2.out
 have hfs14:=blk_frozen BK2.out 0
 have hns14_0:=NB1_2.out
 have hms14_0:=NB2_1.out
 have hs15:=bc1_ BK2.out
 have hfs15:=blk_frozen BK2.out 1
 have hns15_0:=NB1_2.out
 have hms15_0:=NB2_1.out
 have hs16:=bc2_ BK2.out
 have hfs16:=blk_frozen BK2.out 2
 have hns16_0:=NB1_2.out
 have hms16_0:=NB2_1.out
 have hs17:=bc3_ BK2.out
 have hfs17:=blk_frozen BK2.out 3
 have hns17_0:=NB1_2.out
 have hms17_0:=NB2_1.out
 have hs18:=bc4_ BK2.out
 have hfs18:=blk_frozen BK2.out 4
 have hns18_0:=NB1_2.out
 have hms18_0:=NB2_1.out
 refine skip_ (w1:=?_) (by rfl) rfl ?_ ?_
 rotate_left
 ·go_simp
  rfl
 refine hK.out _ _ ⟨(cf_ NB1_2 hHeld.1),(cf_ NB1_2 hHeld.2.1),(cf_ NB1_2 hHeld.2.2.1),(cf_ NB1_2 hHeld.2.2.2.1),(cf_ NB1_2 hHeld.2.2.2.2)⟩ (fun hHeld=>?_)
 clear hK K
 refine dn_ ?_
 try go_wp2
 refine bodyPost_ret (rcr_ gb2 41 #[.slice Ao13 t3.length co13,.int .i64 t6,.string t7,.slice Ao12 y11.length co12,.int .i64 a0_4] BK2 Tryz.underlying41) rfl ?_
 exact ⟨_,_,e2_,kfm_ HO5 BK2,kfm_ HO13 BK2,bw_ HB⟩
def spec_StoreNew.f (k:Nat)  : Option (List ByteArray × Int × ByteArray × List Int × Int):=(spec_LogNew.f k).bind fun bt2=>(some (bt2.1,bt2.2.1,bt2.2.2,([]:List Int),0))
theorem spec_StoreNew.calls (k:Nat)  (r1:List ByteArray) (r2:Int) (r3:ByteArray) (r4:List Int) (r5:Int) (w:World) (h:spec_StoreNew.f k  = some (r1,r2,r3,r4,r5)) :
  Calls Tryz.prog 126 #[] w fun e w'=>∃ v0_ v3_:Value,e = .returned (.agg #[v0_,.int .i64 r2,.string r3,v3_,.int .i64 r5])∧Kd.R Kd.string 9 w' w.heap.size (fun _=>True) v0_ r1∧Kd.R (Kd.int .u8) 5 w' w.heap.size (fun _=>True) v3_ r4∧Below w.heap.size w w':=by
 have hu41:=Tryz.underlying41
 have HB:=h0_ w
 have H:((spec_LogNew.f k).bind fun bt2=>(some (bt2.1,bt2.2.1,bt2.2.2,([]:List Int),0)))=some (r1,r2,r3,r4,r5):=h
 clear h
 replace H:=bi_ H;obtain ⟨⟨t602,t5,t6⟩,A1,H⟩:=H
 dsimp only at H
 replace H:=so5_ H;obtain ⟨rfl,rfl,rfl,rfl,rfl⟩:=H
 go_enter Tryz.func126,Tryz.ntmps126
 go_wp2_with (first|((with_reducible refine gd_ 0 ?_);refine x41_ 0 (hx_ HB ?_);clear HB;intro gb1 w2 BK1 GW1 HB;have GE1:=GW1)|((with_reducible refine gq_ 137 1 ?_);refine gc_ 1 Tryz.func137 (spec_LogNew.calls k  t602 t5 t6 _ A1.out) ?_;rintro e w3 ⟨v3,rfl,ho0,hb⟩;refine ⟨_,rfl,?_⟩;have HO4:=rlo_ ho0 HB;replace BK1:=kl_ BK1 hb;replace HB:=ss_ HB hb;clear hb ho0;obtain ⟨Ao4,co4,eo4⟩:=Kd.R_slice HO4.out;subst eo4;have hz5:=cz5_ BK1))
 refine bodyPost_ret (rcr_ gb1 41 #[.slice Ao4 t602.length co4,.int .i64 t5,.string t6,.slice none 0 0,.int .i64 0] BK1 Tryz.underlying41) rfl ?_
 exact ⟨_,_,e2_,kfm_ HO4 BK1,nil_,bw_ HB⟩
def IsS105 (w0 W:World) (g:Nat) (f0:List Int) (f1:Int) (f2:Int):Prop:=∃ A0 c0,W.heap[g]?=some (.cells #[.slice A0 f0.length c0,.int .i64 f1,.int .i64 f2] 105 (0,0))∧w0.heap.size≤g∧Kd.C (Kd.int .u8) w0 A0 f0.length f0∧f0.length≤c0
theorem IsS105.grown {w0 W:World} {g:Nat} {f0:List Int} {f1:Int} {f2:Int} {W1:World} {row:Option Nat} (h:IsS105 w0 W g f0 f1 f2) (hw:W.grownBy W1 row) (hne:some g ≠ row):IsS105 w0 W1 g f0 f1 f2:=by
 obtain ⟨A0,c0,hb,hg,hr0,hq0⟩:=h
 exact ⟨A0,c0,blk_grown hb hw hne,hg,hr0,hq0⟩
theorem IsS105.kept {w0 W:World} {g:Nat} {f0:List Int} {f1:Int} {f2:Int} {W1:World} {S:Nat->Prop} (h:IsS105 w0 W g f0 f1 f2) (hk:Kept W W1 S) (hne:¬ S g):IsS105 w0 W1 g f0 f1 f2:=by
 obtain ⟨A0,c0,hb,hg,hr0,hq0⟩:=h
 exact ⟨A0,c0,blk_kept hb hk hne,hg,hr0,hq0⟩
theorem IsS105.below {w0 W:World} {g:Nat} {f0:List Int} {f1:Int} {f2:Int} {W1:World} (h:IsS105 w0 W g f0 f1 f2) (hw:Below W.heap.size W W1):IsS105 w0 W1 g f0 f1 f2:=h.grown (grown_of_below hw none) (by simp)
theorem IsS105.alloc {w0 W:World} {g:Nat} {f0:List Int} {f1:Int} {f2:Int} (h:IsS105 w0 W g f0 f1 f2) (o:Obj):IsS105 w0 (W.alloc o) g f0 f1 f2:=h.below (below_alloc (Below.refl _ _) o)
theorem IsS105.drewN {w0 W:World} {g:Nat} {f0:List Int} {f1:Int} {f2:Int} (h:IsS105 w0 W g f0 f1 f2) (m:Nat):IsS105 w0 (W.drewN m) g f0 f1 f2:=h
theorem IsS105.drew {w0 W:World} {g:Nat} {f0:List Int} {f1:Int} {f2:Int} (h:IsS105 w0 W g f0 f1 f2):IsS105 w0 W.drew g f0 f1 f2:=h
theorem IsS105.at_ {w0 W:World} {g:Nat} {f0:List Int} {f1:Int} {f2:Int} {w':World} {m:Nat} (hq:W.drewN m=w') (h:IsS105 w0 W g f0 f1 f2):IsS105 w0 w' g f0 f1 f2:=by subst hq;exact IsS105.drewN h m
theorem IsS105.apart {w0 W:World} {g:Nat} {f0:List Int} {f1:Int} {f2:Int} {α:Type} {d:Kd α} {e:Nat} {base:Nat} {ok:Nat->Prop} {v:Value} {xs:List α} (h:IsS105 w0 W g f0 f1 f2) (ho:d.R e W base ok v xs) (ht:∀ q,q ∈ e :: d.E->q ≠ 105):d.R e W base (fun k=>ok k∧k ≠ g) v xs:=by
 obtain ⟨A0,c0,hb,hg,hr0,hq0⟩:=h
 exact Kd.R_types ho hb ht
theorem IsS105.own_ne {w0 W:World} {g:Nat} {f0:List Int} {f1:Int} {f2:Int} {α:Type} {d:Kd α} {e:Nat} {base:Nat} {ok:Nat->Prop} {v:Value} {xs:List α} (h:IsS105 w0 W g f0 f1 f2) (ho:d.R e W base ok v xs) (ht:e ≠ 105):some g ≠ v.ownBlock:=by
 obtain ⟨A0,c0,hb,hg,hr0,hq0⟩:=h
 exact Kd.R_ne ho hb ht
theorem IsS105.lt {w0 W:World} {g:Nat} {f0:List Int} {f1:Int} {f2:Int} (h:IsS105 w0 W g f0 f1 f2):g < W.heap.size:=by
 obtain ⟨A0,c0,hb,hg,hr0,hq0⟩:=h
 exact blk_lt hb
theorem IsS105.ge {w0 W:World} {g:Nat} {f0:List Int} {f1:Int} {f2:Int} (h:IsS105 w0 W g f0 f1 f2):w0.heap.size≤g:=by
 obtain ⟨A0,c0,hb,hg,hr0,hq0⟩:=h
 exact hg
theorem IsS105.ne_blk {w0 W:World} {g:Nat} {f0:List Int} {f1:Int} {f2:Int} {a:Nat} {cs:Array Value} {t:TypeId} {fr:Nat × Nat} (h:IsS105 w0 W g f0 f1 f2) (hb2:W.heap[a]?=some (.cells cs t fr)) (ht:t ≠ 105):g ≠ a:=by
 obtain ⟨A0,c0,hb,hg,hr0,hq0⟩:=h
 rintro rfl
 rw [hb] at hb2
 injection hb2 with hb2
 injection hb2 with _ ht2
 exact ht ht2.symm
theorem IsS105.far {w0 W:World} {g:Nat} {f0:List Int} {f1:Int} {f2:Int} {p:Addr} (h:IsS105 w0 W g f0 f1 f2) (hne:g ≠ p.block) (u:Value):IsS105 w0 (W.setCell p u) g f0 f1 f2:=by
 obtain ⟨A0,c0,hb,hg,hr0,hq0⟩:=h
 exact ⟨A0,c0,blk_far hb hne u,hg,hr0,hq0⟩
theorem cellS105_0 {W:World} {g:Nat} {A0:Option Addr} {c0:Nat} {f0:List Int} {f1:Int} {f2:Int} (h:W.heap[g]?=some (.cells #[.slice A0 f0.length c0,.int .i64 f1,.int .i64 f2] 105 (0,0))):W.cell? ⟨g,0,none⟩=some (.slice A0 f0.length c0):=(blk_cell h 0).trans rfl
theorem cellS105_1 {W:World} {g:Nat} {A0:Option Addr} {c0:Nat} {f0:List Int} {f1:Int} {f2:Int} (h:W.heap[g]?=some (.cells #[.slice A0 f0.length c0,.int .i64 f1,.int .i64 f2] 105 (0,0))):W.cell? ⟨g,1,none⟩=some (.int .i64 f1):=(blk_cell h 1).trans rfl
theorem IsS105.set_1 {w0 W:World} {g:Nat} {f0:List Int} {f1:Int} {f2:Int} (h:IsS105 w0 W g f0 f1 f2) (x:Int):IsS105 w0 (W.setCell ⟨g,1,none⟩ (.int .i64 x)) g f0 x f2:=by
 obtain ⟨A0,c0,hb,hg,hr0,hq0⟩:=h
 exact ⟨A0,c0,by simpa using blk_set hb 1 (.int .i64 x),hg,hr0,hq0⟩
theorem cellS105_2 {W:World} {g:Nat} {A0:Option Addr} {c0:Nat} {f0:List Int} {f1:Int} {f2:Int} (h:W.heap[g]?=some (.cells #[.slice A0 f0.length c0,.int .i64 f1,.int .i64 f2] 105 (0,0))):W.cell? ⟨g,2,none⟩=some (.int .i64 f2):=(blk_cell h 2).trans rfl
theorem IsS105.set_2 {w0 W:World} {g:Nat} {f0:List Int} {f1:Int} {f2:Int} (h:IsS105 w0 W g f0 f1 f2) (x:Int):IsS105 w0 (W.setCell ⟨g,2,none⟩ (.int .i64 x)) g f0 f1 x:=by
 obtain ⟨A0,c0,hb,hg,hr0,hq0⟩:=h
 exact ⟨A0,c0,by simpa using blk_set hb 2 (.int .i64 x),hg,hr0,hq0⟩
theorem IsS105.new (w0 W:World) (A0:Option Addr) (c0:Nat) (f0:List Int) (f1:Int) (f2:Int) (hB:Below w0.heap.size w0 W) (hr0:Kd.C (Kd.int .u8) w0 A0 f0.length f0) (hq0:f0.length≤c0):IsS105 w0 (W.alloc (.cells #[.slice A0 f0.length c0,.int .i64 f1,.int .i64 f2] 105)) W.heap.size f0 f1 f2:=⟨A0,c0,by simpa using heap_alloc_new W _,hB.size,hr0,hq0⟩
theorem in105_ {w0 w1 w2:World} {g:Nat} {f0:List Int} {f1:Int} {f2:Int} {f02:List Int} {f12:Int} {f22:Int} (h:Aside0 (IsS105 w0 w1 g f0 f1 f2)) (f:IsS105 w0 w1 g f0 f1 f2->IsS105 w0 w2 g f02 f12 f22:=by intro h_;repeat (first|(with_reducible first|exact h_|apply IsS105.alloc|apply IsS105.drewN|apply IsS105.drew|apply IsS105.set_1|apply IsS105.set_2|refine IsS105.far ?_ (Aside0.out (by assumption)) _)|exact h_)):IsS105 w0 w2 g f02 f12 f22:=f h.out
theorem bi105_ {w w1 w2:World} (h:Aside0 (Below w.heap.size w w1)) (g:Below w.heap.size w w1->Below w.heap.size w w2:=by intro h_;repeat (first|(with_reducible first|exact h_|apply below_alloc|apply pw_below_drewN|apply below_drew1|refine below_set ?_ (Aside0.out (by assumption))|refine below_set ?_ (IsS105.ge (Aside0.out (by assumption))))|exact h_)):Below w.heap.size w w2:=g h.out
theorem rat105_ {α:Type} {d:Kd α} {e base:Nat} {ok:Nat->Prop} {v:Value} {xs:List α} {w0 W w1:World} {g:Nat} {f0:List Int} {f1:Int} {f2:Int} (i:IsS105 w0 W g f0 f1 f2) (h:d.R e W base ok v xs) (hk:KeepBut W w1 g none) (hne:∀ q,q ∈ e :: d.E->q ≠ 105:=by decide):Aside0 (d.R e w1 base ok v xs):=⟨Kd.R_mono (Kd.R_keep (IsS105.apart i h hne) hk (fun _ h=>h.2)) (fun _ h=>h.1)⟩
theorem iw105_ {w0 W w1:World} {g:Nat} {f0:List Int} {f1:Int} {f2:Int} (_hk:KeepBut W w1 g none) (h:IsS105 w0 W g f0 f1 f2):IsS105 w0 W g f0 f1 f2:=h
def spec_l1New.l0:Nat->List Int->Int->Int->Option (List Int × Int × Int)
 | 0,_,_,_=>none
 | k+1,x0,x3,x4=>if x4 < (x0.length:Int) then (if x4 < 4000 then (if 0≤x4 then (spec_l1New.l0 k x0 (Go.bits .and .i64 (wrap64 ((wrap64 ((wrap64 (x3 * 137)) + (wrap64 (rd x0 x4)))) + 11)) 1073741823) (wrap64 (x4+1))) else (none)) else (some (x0,0,x3))) else (some (x0,0,x3))
def spec_l1New.f (k:Nat) (l0:List Int):Option (List Int × Int × Int):=spec_l1New.l0 k l0 (wrap64 (372372+(l0.length:Int))) 0
theorem spec_l1New.calls (k:Nat) (A0:Option Addr) (c0:Nat) (l0:List Int) (r1:List Int) (r2:Int) (r3:Int) (w0 w:World) (hB:Below w0.heap.size w0 w) (hr0:Kd.C (Kd.int .u8) w0 A0 l0.length l0) (hc0:l0.length≤c0) (h:spec_l1New.f k l0=some (r1,r2,r3)) :
  Calls Tryz.prog 51 #[.slice A0 l0.length c0] w fun e w'=>∃ g_:Nat,e = .returned (.pointer (some ⟨g_,0,none⟩))∧IsS105 w0 w' g_ r1 r2 r3∧Below w0.heap.size w0 w'∧Below w.heap.size w w':=by
 have hu105:=Tryz.underlying105
 have HR0:=am_ hr0
 have HC0:=am_ hc0
 clear hr0 hc0
 have HBW:=h0_ w
 have HW0:=am_ hB.size
 have HB:=am_ hB
 clear hB
 have H:(spec_l1New.l0 k l0 (wrap64 (372372+(l0.length:Int))) 0)=some (r1,r2,r3):=h
 clear h
 have H':=am_ H
 clear H
 go_enter Tryz.func51,Tryz.ntmps51
 go_wp2
 go_loopg [3,4] k (fun kq v3 v4 w'=>∃ (x3_1:Int) (x4_1:Int),v3 = .int .i64 x3_1∧v4 = .int .i64 x4_1∧Aside0 (spec_l1New.l0 kq l0 x3_1 x4_1=some (r1,r2,r3))∧Aside0 (kq≤k)∧Aside0 (Below w0.heap.size w0 w')∧Aside0 (Below w.heap.size w w'))
 case atStart => exact ⟨(wrap64 (372372+(l0.length:Int))),(0),e1_,e1_,H',⟨Nat.le_refl _⟩,⟨bw_ HB⟩,⟨by repeat (first|(with_reducible first|exact HBW.out|apply below_alloc|apply pw_below_drewN|apply below_drew1)|exact HBW.out)⟩⟩
 case round =>
  clear H'
  obtain ⟨x3_1,x4_1,rfl,rfl,HA,HK1,HB,HBW⟩:=hrel
  cases gk with
  | zero=>exact absurd HA.out (by simp [spec_l1New.l0])
  | succ k1 =>
   have H:=HA.out
   clear HA
   simp only [spec_l1New.l0] at H
   replace H:=itd_ H;obtain ⟨c2b0,H⟩|⟨c2b0,H⟩:=H
   ·replace H:=itd_ H;obtain ⟨c3b0,H⟩|⟨c3b0,H⟩:=H
    ·replace H:=ipd_ H;obtain ⟨c4b0,H⟩:=H
     have H':=am_ H
     clear H
     have p601:0≤(x4_1:Int):=od_
     have q1:x4_1 < (l0.length:Int):=od_
     obtain ⟨ad1,e601,hx1_0⟩:=Kd.at_int HR0.out x4_1 p601 q1
     cases e601
     replace hx1_0:=pw_cell_below HB.out hx1_0
     replace p601:=eq_true p601
     replace q1:=eq_true q1
     go_wp2
     go_roundg k1
     case measure => have:=HK1.out;omega
     case rel => exact ⟨(Go.bits .and .i64 (wrap64 ((wrap64 ((wrap64 (x3_1 * 137)) + (wrap64 (rd l0 x4_1)))) + 11)) 1073741823),(wrap64 (x4_1+1)),e1_,e1_,H',⟨by have:=HK1.out;omega⟩,⟨bw_ HB⟩,⟨by repeat (first|(with_reducible first|exact HBW.out|apply below_alloc|apply pw_below_drewN|apply below_drew1)|exact HBW.out)⟩⟩
    ·replace H:=so3_ H;obtain ⟨rfl,rfl,rfl⟩:=H
     go_wp2_with (first|((with_reducible refine gd_ 31 ?_);refine bx_ 31 105 #[.slice A0 l0.length c0,.int .i64 0,.int .i64 x3_1] ?_;intro gb2 hg w5 hbox hb;replace HB:=ss_ HB hb;have BK2:=am_ hbox;have GW2:=am_ ((by rw [hg];exact (below_size (by repeat (first|(with_reducible first|exact HBW.out|apply below_alloc|apply pw_below_drewN|apply below_drew1)|exact HBW.out))):w.heap.size≤gb2));have GE2:=am_ ((Nat.le_trans HW0.out (by rw [hg];exact (below_size (by repeat (first|(with_reducible first|exact HBW.out|apply below_alloc|apply pw_below_drewN|apply below_drew1)|exact HBW.out))):w.heap.size≤gb2):w0.heap.size≤gb2));replace HBW:=am_ (below_step HBW.out hb);clear hb hbox hg))
     go_ret
     exact ⟨_,rfl,(show IsS105 w0 _ gb2 l0 0 x3_1 from ⟨_,_,kb_ BK2.out,GE2.out,HR0.out,HC0.out⟩),bw_ HB,by repeat (first|(with_reducible first|exact HBW.out|apply below_alloc|apply pw_below_drewN|apply below_drew1|refine below_set ?_ GW2.out)|exact HBW.out)⟩
   ·replace H:=so3_ H;obtain ⟨rfl,rfl,rfl⟩:=H
    go_wp2_with (first|((with_reducible refine gd_ 31 ?_);refine bx_ 31 105 #[.slice A0 l0.length c0,.int .i64 0,.int .i64 x3_1] ?_;intro gb3 hg w6 hbox hb;replace HB:=ss_ HB hb;have BK3:=am_ hbox;have GW3:=am_ ((by rw [hg];exact (below_size (by repeat (first|(with_reducible first|exact HBW.out|apply below_alloc|apply pw_below_drewN|apply below_drew1)|exact HBW.out))):w.heap.size≤gb3));have GE3:=am_ ((Nat.le_trans HW0.out (by rw [hg];exact (below_size (by repeat (first|(with_reducible first|exact HBW.out|apply below_alloc|apply pw_below_drewN|apply below_drew1)|exact HBW.out))):w.heap.size≤gb3):w0.heap.size≤gb3));replace HBW:=am_ (below_step HBW.out hb);clear hb hbox hg))
    go_ret
    exact ⟨_,rfl,(show IsS105 w0 _ gb3 l0 0 x3_1 from ⟨_,_,kb_ BK3.out,GE3.out,HR0.out,HC0.out⟩),bw_ HB,by repeat (first|(with_reducible first|exact HBW.out|apply below_alloc|apply pw_below_drewN|apply below_drew1|refine below_set ?_ GW3.out)|exact HBW.out)⟩
def spec_l1Byte.f (s0_0:List Int) (s0_1:Int) (s0_2:Int):Option (Int × Int × Int):=if s0_1 < (s0_0.length:Int) then (if 0≤s0_1 then (some (Go.bits .and .i64 (wrap64 ((Go.bits .and .i64 (Go.bits .xor .i64 ((wrap64 ((wrap64 (s0_2 * 6364136223846793005)) + 1442695040888963407)) / 8589934592) ((wrap64 ((wrap64 (s0_2 * 6364136223846793005)) + 1442695040888963407)) / 140737488355328)) 255) + (wrap64 (rd s0_0 s0_1)))) 255,wrap64 (s0_1+1),wrap64 ((wrap64 (s0_2 * 6364136223846793005)) + 1442695040888963407))) else (none)) else (some (Go.bits .and .i64 (Go.bits .xor .i64 ((wrap64 ((wrap64 (s0_2 * 6364136223846793005)) + 1442695040888963407)) / 8589934592) ((wrap64 ((wrap64 (s0_2 * 6364136223846793005)) + 1442695040888963407)) / 140737488355328)) 255,s0_1,wrap64 ((wrap64 (s0_2 * 6364136223846793005)) + 1442695040888963407)))
theorem spec_l1Byte.calls (g:Nat) (s0_0:List Int) (s0_1:Int) (s0_2:Int) (r1:Int) (r2:Int) (r3:Int) (w0 w:World) (hI:IsS105 w0 w g s0_0 s0_1 s0_2) (hB:Below w0.heap.size w0 w) (h:spec_l1Byte.f s0_0 s0_1 s0_2=some (r1,r2,r3)) :
  Calls Tryz.prog 116 #[.pointer (some ⟨g,0,none⟩)] w fun e w'=>e = .returned (.int .i64 r1)∧IsS105 w0 w' g s0_0 r2 r3∧Below w0.heap.size w0 w'∧KeepBut w w' g none:=by
 have HI0:=am_ hI
 have HK:=am_ (KeepBut.refl w g none)
 have HL:=am_ hB.size
 clear hI
 have HW0:=am_ hB.size
 have HB:=am_ hB
 clear hB
 have H:(if s0_1 < (s0_0.length:Int) then (if 0≤s0_1 then (some (Go.bits .and .i64 (wrap64 ((Go.bits .and .i64 (Go.bits .xor .i64 ((wrap64 ((wrap64 (s0_2 * 6364136223846793005)) + 1442695040888963407)) / 8589934592) ((wrap64 ((wrap64 (s0_2 * 6364136223846793005)) + 1442695040888963407)) / 140737488355328)) 255) + (wrap64 (rd s0_0 s0_1)))) 255,wrap64 (s0_1+1),wrap64 ((wrap64 (s0_2 * 6364136223846793005)) + 1442695040888963407))) else (none)) else (some (Go.bits .and .i64 (Go.bits .xor .i64 ((wrap64 ((wrap64 (s0_2 * 6364136223846793005)) + 1442695040888963407)) / 8589934592) ((wrap64 ((wrap64 (s0_2 * 6364136223846793005)) + 1442695040888963407)) / 140737488355328)) 255,s0_1,wrap64 ((wrap64 (s0_2 * 6364136223846793005)) + 1442695040888963407))))=some (r1,r2,r3):=h
 clear h
 replace H:=itd_ H;obtain ⟨c2b0,H⟩|⟨c2b0,H⟩:=H
 ·replace H:=ipd_ H;obtain ⟨c3b0,H⟩:=H
  replace H:=so3_ H;obtain ⟨rfl,rfl,rfl⟩:=H
  obtain ⟨ASz4_0,cSz4_0,HGz4,hgz4,HSz4_0,HSQz4_0⟩:=HI0.out
  have hcz4_0:=cellS105_0 HGz4
  have hcz4_1:=cellS105_1 HGz4
  have hcz4_2:=cellS105_2 HGz4
  have hfz4_1:=blk_frozen HGz4 1
  have hfz4_2:=blk_frozen HGz4 2
  clear HGz4 hgz4
  have p601:0≤(s0_1:Int):=od_
  have q1:s0_1 < (s0_0.length:Int):=od_
  obtain ⟨ad1,e601,hx1_0⟩:=Kd.at_int HSz4_0 s0_1 p601 q1
  cases e601
  have hn1_0:ad1.block ≠ g:=Nat.ne_of_lt (Nat.lt_of_lt_of_le (by have:=World.block_lt_of_cell? _ _ hx1_0;first|rwa [add_block] at this|exact this) (IsS105.ge HI0.out))
  replace hx1_0:=pw_cell_below HB.out hx1_0
  replace hx1_0:=(cell_far (p:=⟨g,2,none⟩) (by first|(rw [add_block];exact hn1_0)|(show (Addr.add _ _).block ≠ _;rw [add_block];exact hn1_0)|exact hn1_0) (.int .i64 (wrap64 ((wrap64 (s0_2 * 6364136223846793005)) + 1442695040888963407)))).trans hx1_0
  (try have hy1_0:=fun (n_:Nat)=>(show (((w.drewN n_).setCell ⟨g,2,none⟩ (.int .i64 (wrap64 ((wrap64 (s0_2 * 6364136223846793005)) + 1442695040888963407))))).cell? _=some _ from hx1_0))
  clear hn1_0
  replace p601:=eq_true p601
  replace q1:=eq_true q1
  go_enter Tryz.func116,Tryz.ntmps116
  go_wp2
  repeat (go_quiet (fail);try go_wp2)
  go_ret
  exact ⟨e2_,in105_ HI0,bi105_ HB,kn_ HK⟩
 ·replace H:=so3_ H;obtain ⟨rfl,rfl,rfl⟩:=H
  obtain ⟨ASz5_0,cSz5_0,HGz5,hgz5,HSz5_0,HSQz5_0⟩:=HI0.out
  have hcz5_0:=cellS105_0 HGz5
  have hcz5_1:=cellS105_1 HGz5
  have hcz5_2:=cellS105_2 HGz5
  have hfz5_1:=blk_frozen HGz5 1
  have hfz5_2:=blk_frozen HGz5 2
  clear HGz5 hgz5
  go_enter Tryz.func116,Tryz.ntmps116
  go_wp2
  repeat (go_quiet (fail);try go_wp2)
  go_ret
  exact ⟨e2_,in105_ HI0,bi105_ HB,kn_ HK⟩
def spec_l1Below.f (s0_0:List Int) (s0_1:Int) (s0_2:Int) (a1:Int):Option (Int × Int × Int):=if a1≤0 then (some (0,s0_1,s0_2)) else (if a1≤256 then ((spec_l1Byte.f s0_0 s0_1 s0_2).bind fun bt1=>(if a1=0 then (none) else (some (Int.tmod bt1.1 a1,bt1.2.1,bt1.2.2)))) else ((spec_l1Byte.f s0_0 s0_1 s0_2).bind fun bt4=>((spec_l1Byte.f s0_0 bt4.2.1 bt4.2.2).bind fun bt7=>((spec_l1Byte.f s0_0 bt7.2.1 bt7.2.2).bind fun bt10=>(if a1=0 then (none) else (some (Int.tmod (wrap64 ((wrap64 ((wrap64 (bt4.1 * 65536)) + (wrap64 (bt7.1 * 256)))) + bt10.1)) a1,bt10.2.1,bt10.2.2)))))))
theorem spec_l1Below.calls (g:Nat) (s0_0:List Int) (s0_1:Int) (s0_2:Int) (a1:Int) (r1:Int) (r2:Int) (r3:Int) (w0 w:World) (hI:IsS105 w0 w g s0_0 s0_1 s0_2) (hB:Below w0.heap.size w0 w) (h:spec_l1Below.f s0_0 s0_1 s0_2 a1=some (r1,r2,r3)) :
  Calls Tryz.prog 87 #[.pointer (some ⟨g,0,none⟩),.int .i64 a1] w fun e w'=>e = .returned (.int .i64 r1)∧IsS105 w0 w' g s0_0 r2 r3∧Below w0.heap.size w0 w'∧KeepBut w w' g none:=by
 have HI0:=am_ hI
 have HK:=am_ (KeepBut.refl w g none)
 have HL:=am_ hB.size
 clear hI
 have HW0:=am_ hB.size
 have HB:=am_ hB
 clear hB
 have H:(if a1≤0 then (some (0,s0_1,s0_2)) else (if a1≤256 then ((spec_l1Byte.f s0_0 s0_1 s0_2).bind fun bt1=>(if a1=0 then (none) else (some (Int.tmod bt1.1 a1,bt1.2.1,bt1.2.2)))) else ((spec_l1Byte.f s0_0 s0_1 s0_2).bind fun bt4=>((spec_l1Byte.f s0_0 bt4.2.1 bt4.2.2).bind fun bt7=>((spec_l1Byte.f s0_0 bt7.2.1 bt7.2.2).bind fun bt10=>(if a1=0 then (none) else (some (Int.tmod (wrap64 ((wrap64 ((wrap64 (bt4.1 * 65536)) + (wrap64 (bt7.1 * 256)))) + bt10.1)) a1,bt10.2.1,bt10.2.2))))))))=some (r1,r2,r3):=h
 clear h
 replace H:=itd_ H;obtain ⟨c3b0,H⟩|⟨c3b0,H⟩:=H
 ·replace H:=so3_ H;obtain ⟨rfl,rfl,rfl⟩:=H
  go_enter Tryz.func87,Tryz.ntmps87
  go_wp2
  go_ret
  exact ⟨e2_,in105_ HI0,bi105_ HB,kn_ HK⟩
 ·replace H:=itd_ H;obtain ⟨c4b0,H⟩|⟨c4b0,H⟩:=H
  ·replace H:=bi_ H;obtain ⟨⟨t1,t602,t3⟩,A5,H⟩:=H
   dsimp only at H
   replace H:=in_ H;obtain ⟨c6,H⟩:=H
   have c6b0:(a1 == 0)=false:=beq_eq_false_iff_ne.mpr c6
   have c6b1:(a1 != 0)=true:=bne_iff_ne.mpr c6
   replace H:=so3_ H;obtain ⟨rfl,rfl,rfl⟩:=H
   go_enter Tryz.func87,Tryz.ntmps87
   go_wp2_with (first|((with_reducible refine gq_ 116 13 ?_);refine gc_ 13 Tryz.func116 (spec_l1Byte.calls g s0_0 s0_1 s0_2 t1 t602 t3 w0 _ (in105_ HI0) (bi105_ HB) A5.out) ?_;rintro e w7 ⟨rfl,hi,hb,hk⟩;refine ⟨_,rfl,?_⟩;replace HK:=ktr_ HK hk;replace HB:=am_ hb;replace HI0:=am_ hi;clear hb hk hi))
   go_ret
   exact ⟨e2_,in105_ HI0,bi105_ HB,kn_ HK⟩
  ·replace H:=bi_ H;obtain ⟨⟨t4,t5,t6⟩,A8,H⟩:=H
   dsimp only at H
   replace H:=bi_ H;obtain ⟨⟨t7,t8,t9⟩,A9,H⟩:=H
   dsimp only at H
   replace H:=bi_ H;obtain ⟨⟨t10,t11,t12⟩,A10,H⟩:=H
   dsimp only at H
   replace H:=in_ H;obtain ⟨c11,H⟩:=H
   have c11b0:(a1 == 0)=false:=beq_eq_false_iff_ne.mpr c11
   have c11b1:(a1 != 0)=true:=bne_iff_ne.mpr c11
   replace H:=so3_ H;obtain ⟨rfl,rfl,rfl⟩:=H
   go_enter Tryz.func87,Tryz.ntmps87
   go_wp2_with (first|((with_reducible refine gq_ 116 17 ?_);refine gc_ 17 Tryz.func116 (spec_l1Byte.calls g s0_0 s0_1 s0_2 t4 t5 t6 w0 _ (in105_ HI0) (bi105_ HB) A8.out) ?_;rintro e w12 ⟨rfl,hi,hb,hk⟩;refine ⟨_,rfl,?_⟩;replace HK:=ktr_ HK hk;replace HB:=am_ hb;replace HI0:=am_ hi;clear hb hk hi)|((with_reducible refine gq_ 116 19 ?_);refine gc_ 19 Tryz.func116 (spec_l1Byte.calls g s0_0 t5 t6 t7 t8 t9 w0 _ (in105_ HI0) (bi105_ HB) A9.out) ?_;rintro e w13 ⟨rfl,hi,hb,hk⟩;refine ⟨_,rfl,?_⟩;replace HK:=ktr_ HK hk;replace HB:=am_ hb;replace HI0:=am_ hi;clear hb hk hi)|((with_reducible refine gq_ 116 21 ?_);refine gc_ 21 Tryz.func116 (spec_l1Byte.calls g s0_0 t8 t9 t10 t11 t12 w0 _ (in105_ HI0) (bi105_ HB) A10.out) ?_;rintro e w14 ⟨rfl,hi,hb,hk⟩;refine ⟨_,rfl,?_⟩;replace HK:=ktr_ HK hk;replace HB:=am_ hb;replace HI0:=am_ hi;clear hb hk hi))
   go_ret
   exact ⟨e2_,in105_ HI0,bi105_ HB,kn_ HK⟩
def spec_l1Int.f (s0_0:List Int) (s0_1:Int) (s0_2:Int) (l1:List Int):Option (Int × Int × Int):=(spec_l1Below.f s0_0 s0_1 s0_2 (l1.length:Int)).bind fun bt1=>(if 0≤bt1.1 then (if bt1.1 < (l1.length:Int) then (some (rd l1 bt1.1,bt1.2.1,bt1.2.2)) else (none)) else (none))
theorem spec_l1Int.calls (g:Nat) (s0_0:List Int) (s0_1:Int) (s0_2:Int) (A1:Option Addr) (c1:Nat) (l1:List Int) (r1:Int) (r2:Int) (r3:Int) (w0 w:World) (hI:IsS105 w0 w g s0_0 s0_1 s0_2) (hB:Below w0.heap.size w0 w) (hr1:Kd.C (Kd.int .i64) w A1 l1.length l1) (hc1:l1.length≤c1) (hf1:∀ ad,A1=some ad->0 < l1.length->ad.block ≠ g) (h:spec_l1Int.f s0_0 s0_1 s0_2 l1=some (r1,r2,r3)) :
  Calls Tryz.prog 53 #[.pointer (some ⟨g,0,none⟩),.slice A1 l1.length c1] w fun e w'=>e = .returned (.int .i64 r1)∧IsS105 w0 w' g s0_0 r2 r3∧Below w0.heap.size w0 w'∧KeepBut w w' g none:=by
 have HR1:=am_ hr1
 have HC1:=am_ hc1
 clear hr1 hc1
 have HI0:=am_ hI
 have HK:=am_ (KeepBut.refl w g none)
 have HL:=am_ hB.size
 clear hI
 have HW0:=am_ hB.size
 have HB:=am_ hB
 clear hB
 have H:((spec_l1Below.f s0_0 s0_1 s0_2 (l1.length:Int)).bind fun bt1=>(if 0≤bt1.1 then (if bt1.1 < (l1.length:Int) then (some (rd l1 bt1.1,bt1.2.1,bt1.2.2)) else (none)) else (none)))=some (r1,r2,r3):=h
 clear h
 replace H:=bi_ H;obtain ⟨⟨t1,t602,t3⟩,A3,H⟩:=H
 dsimp only at H
 replace H:=ipd_ H;obtain ⟨c4b0,H⟩:=H
 replace H:=ipd_ H;obtain ⟨c5b0,H⟩:=H
 replace H:=so3_ H;obtain ⟨rfl,rfl,rfl⟩:=H
 go_enter Tryz.func53,Tryz.ntmps53
 go_wp2_with (first|((with_reducible refine gq_ 87 9 ?_);refine gc_ 9 Tryz.func87 (spec_l1Below.calls g s0_0 s0_1 s0_2 (l1.length:Int) t1 t602 t3 w0 _ (in105_ HI0) (bi105_ HB) A3.out) ?_;rintro e w6 ⟨rfl,hi,hb,hk⟩;refine ⟨_,rfl,?_⟩;replace HK:=ktr_ HK hk;replace HB:=am_ hb;replace HI0:=am_ hi;clear hb hk hi;have p604:0≤(t1:Int):=od_;have q4:t1 < (l1.length:Int):=od_;obtain ⟨ad4,e4,hx4_0⟩:=Kd.at_int HR1.out t1 p604 q4;cases e4;replace hx4_0:=keep_cell HK.out hx4_0 (by first|(rw [add_block];exact hf1 _ rfl (by omega))|exact hf1 _ rfl (by omega)|exact hf1 ad4 rfl (by omega));replace p604:=eq_true p604;replace q4:=eq_true q4))
 go_ret
 exact ⟨e2_,in105_ HI0,bi105_ HB,kn_ HK⟩
def spec_l1Str.f (s0_0:List Int) (s0_1:Int) (s0_2:Int) (l1:List ByteArray):Option (ByteArray × Int × Int):=(spec_l1Below.f s0_0 s0_1 s0_2 (l1.length:Int)).bind fun bt1=>(if 0≤bt1.1 then (if bt1.1 < (l1.length:Int) then (some (rdOf ByteArray.empty l1 bt1.1,bt1.2.1,bt1.2.2)) else (none)) else (none))
theorem spec_l1Str.calls (g:Nat) (s0_0:List Int) (s0_1:Int) (s0_2:Int) (A1:Option Addr) (c1:Nat) (l1:List ByteArray) (r1:ByteArray) (r2:Int) (r3:Int) (w0 w:World) (hI:IsS105 w0 w g s0_0 s0_1 s0_2) (hB:Below w0.heap.size w0 w) (hr1:Kd.C Kd.string w A1 l1.length l1) (hc1:l1.length≤c1) (hf1:∀ ad,A1=some ad->0 < l1.length->ad.block ≠ g) (h:spec_l1Str.f s0_0 s0_1 s0_2 l1=some (r1,r2,r3)) :
  Calls Tryz.prog 139 #[.pointer (some ⟨g,0,none⟩),.slice A1 l1.length c1] w fun e w'=>e = .returned (.string r1)∧IsS105 w0 w' g s0_0 r2 r3∧Below w0.heap.size w0 w'∧KeepBut w w' g none:=by
 have HR1:=am_ hr1
 have HC1:=am_ hc1
 clear hr1 hc1
 have HI0:=am_ hI
 have HK:=am_ (KeepBut.refl w g none)
 have HL:=am_ hB.size
 clear hI
 have HW0:=am_ hB.size
 have HB:=am_ hB
 clear hB
 have H:((spec_l1Below.f s0_0 s0_1 s0_2 (l1.length:Int)).bind fun bt1=>(if 0≤bt1.1 then (if bt1.1 < (l1.length:Int) then (some (rdOf ByteArray.empty l1 bt1.1,bt1.2.1,bt1.2.2)) else (none)) else (none)))=some (r1,r2,r3):=h
 clear h
 replace H:=bi_ H;obtain ⟨⟨t1,t602,t3⟩,A3,H⟩:=H
 dsimp only at H
 replace H:=ipd_ H;obtain ⟨c4b0,H⟩:=H
 replace H:=ipd_ H;obtain ⟨c5b0,H⟩:=H
 replace H:=so3_ H;obtain ⟨rfl,rfl,rfl⟩:=H
 go_enter Tryz.func139,Tryz.ntmps139
 go_wp2_with (first|((with_reducible refine gq_ 87 9 ?_);refine gc_ 9 Tryz.func87 (spec_l1Below.calls g s0_0 s0_1 s0_2 (l1.length:Int) t1 t602 t3 w0 _ (in105_ HI0) (bi105_ HB) A3.out) ?_;rintro e w6 ⟨rfl,hi,hb,hk⟩;refine ⟨_,rfl,?_⟩;replace HK:=ktr_ HK hk;replace HB:=am_ hb;replace HI0:=am_ hi;clear hb hk hi;have p604:0≤(t1:Int):=od_;have q4:t1 < (l1.length:Int):=od_;obtain ⟨ad4,e4,hx4_0⟩:=Kd.at_string HR1.out t1 p604 q4;cases e4;replace hx4_0:=keep_cell HK.out hx4_0 (by first|(rw [add_block];exact hf1 _ rfl (by omega))|exact hf1 _ rfl (by omega)|exact hf1 ad4 rfl (by omega));replace p604:=eq_true p604;replace q4:=eq_true q4))
 go_ret
 exact ⟨e2_,in105_ HI0,bi105_ HB,kn_ HK⟩
def spec_l6List.l0:Nat->List ByteArray->Int->List Int->Int->Int->Option (List ByteArray × Int × Int)
 | 0,_,_,_,_,_=>none
 | k+1,x3,x4,x1000,x1001,x1002=>if x4 > 0 then ((spec_l1Str.f x1000 x1001 x1002 (([(⟨#[]⟩:ByteArray),(⟨#[97]⟩:ByteArray),(⟨#[98]⟩:ByteArray),(⟨#[120,121,122]⟩:ByteArray)]:List ByteArray))).bind fun bt13=>(if x3.length < 8796093022208 then (spec_l6List.l0 k (x3 ++ [bt13.1]) (wrap64 (x4 - 1)) x1000 bt13.2.1 bt13.2.2) else (none))) else (some (x3,x1001,x1002))
def spec_l6List.f (k:Nat) (s0_0:List Int) (s0_1:Int) (s0_2:Int):Option (List ByteArray × Int × Int):=(spec_l1Int.f s0_0 s0_1 s0_2 (([0,1,2,3,4,5,7,8,6]:List Int))).bind fun bt7=>(spec_l6List.l0 k (([]:List ByteArray)) bt7.1 s0_0 bt7.2.1 bt7.2.2)
theorem spec_l6List.calls (k:Nat) (g:Nat) (s0_0:List Int) (s0_1:Int) (s0_2:Int) (r1:List ByteArray) (r2:Int) (r3:Int) (w0 w:World) (hI:IsS105 w0 w g s0_0 s0_1 s0_2) (hB:Below w0.heap.size w0 w) (h:spec_l6List.f k s0_0 s0_1 s0_2=some (r1,r2,r3)) :
  Calls Tryz.prog 118 #[.pointer (some ⟨g,0,none⟩)] w fun e w'=>∃ v0_:Value,e = .returned (v0_)∧Kd.R Kd.string 9 w' w.heap.size (fun _=>True) v0_ r1∧IsS105 w0 w' g s0_0 r2 r3∧Below w0.heap.size w0 w'∧KeepBut w w' g none:=by
 have HI0:=am_ hI
 have HK:=am_ (KeepBut.refl w g none)
 have HL:=am_ hB.size
 clear hI
 have HW0:=am_ hB.size
 have HB:=am_ hB
 clear hB
 have H:((spec_l1Int.f s0_0 s0_1 s0_2 (([0,1,2,3,4,5,7,8,6]:List Int))).bind fun bt7=>(spec_l6List.l0 k (([]:List ByteArray)) bt7.1 s0_0 bt7.2.1 bt7.2.2))=some (r1,r2,r3):=h
 clear h
 obtain ⟨y601,hy1⟩:∃ y_:List ByteArray,y_=(([]:List ByteArray)):=⟨_,rfl⟩
 replace H:((spec_l1Int.f s0_0 s0_1 s0_2 (([0,1,2,3,4,5,7,8,6]:List Int))).bind fun bt7=>(spec_l6List.l0 k y601 bt7.1 s0_0 bt7.2.1 bt7.2.2))=some (r1,r2,r3):=yh_ hy1 H
 have Ny1:=am_ hy1
 clear hy1
 obtain ⟨y604,hy4⟩:∃ y_:List Int,y_=(([0,1,2,3,4,5,7,8,6]:List Int)):=⟨_,rfl⟩
 replace H:((spec_l1Int.f s0_0 s0_1 s0_2 y604).bind fun bt7=>(spec_l6List.l0 k y601 bt7.1 s0_0 bt7.2.1 bt7.2.2))=some (r1,r2,r3):=yh_ hy4 H
 have Ny4:=am_ hy4
 clear hy4
 replace H:=bi_ H;obtain ⟨⟨t7,t8,t9⟩,A2,H⟩:=H
 dsimp only at H
 have H':=am_ H
 clear H
 go_enter Tryz.func118,Tryz.ntmps118
 go_wp2_with (first|((with_reducible refine gd_ 5 ?_);refine rl_ Kd.string 9 5 ([]:List ByteArray) [] ?_;intro v2 w3 ho4 hb hg_ hnew_;clear hg_ hnew_;(first|rw [← Ny1.out] at ho4|(simp only [Int.reduceToNat] at ho4;rw [← Ny1.out] at ho4));have HO3:=am_ (Kd.R_lower ho4 (keep_size (w:=w) (g:=g) (row:=none) (kn_ HK)));replace HK:=am_ (KeepBut.trans (kn_ HK) (KeepBut.of_below hb g none) (.inl rfl));replace HB:=am_ (below_step (bs1_ HB (IsS105.ge HI0.out)) hb);replace HI0:=am_ (IsS105.below (in105_ HI0) hb);clear hb ho4)|((with_reducible refine gd_ 7 ?_);refine rl_ (Kd.int .i64) 3 7 ([0,1,2,3,4,5,7,8,6]:List Int) [.int .i64 0,.int .i64 1,.int .i64 2,.int .i64 3,.int .i64 4,.int .i64 5,.int .i64 7,.int .i64 8,.int .i64 6] ?_;intro v5 w5 ho6 hb hg_ hnew_;clear hg_ hnew_;(first|rw [← Ny4.out] at ho6|(simp only [Int.reduceToNat] at ho6;rw [← Ny4.out] at ho6));replace HO3:=rb_ HO3 hb;have HO6:=am_ (Kd.R_lower ho6 (keep_size (w:=w) (g:=g) (row:=none) (kn_ HK)));replace HK:=am_ (KeepBut.trans (kn_ HK) (KeepBut.of_below hb g none) (.inl rfl));replace HB:=am_ (below_step (bs1_ HB (IsS105.ge HI0.out)) hb);replace HI0:=am_ (IsS105.below (in105_ HI0) hb);clear hb ho6;obtain ⟨Ao7,co7,eo7⟩:=Kd.R_slice HO6.out;subst eo7)|((with_reducible refine gq_ 53 8 ?_);refine gc_ 8 Tryz.func53 (spec_l1Int.calls g s0_0 s0_1 s0_2 _ _ y604 t7 t8 t9 w0 _ (in105_ HI0) (bi105_ HB) (ch_ HO6) (cl_ HO6) (far_slice (IsS105.own_ne HI0.out HO6.out (by decide))) A2.out) ?_;rintro e w8 ⟨rfl,hi,hb,hk⟩;refine ⟨_,rfl,?_⟩;have i_:=iw105_ hk (show IsS105 w0 _ g s0_0 s0_1 s0_2 from in105_ HI0);replace HO3:=rat105_ i_ (kr_ HO3.out) hk;replace HO6:=rat105_ i_ (kr_ HO6.out) hk;clear i_;replace HK:=ktr_ HK hk;replace HB:=am_ hb;replace HI0:=am_ hi;clear hb hk hi))
 go_loopg [3,4] k (fun kq v3 v4 w'=>∃ (x3_1:List ByteArray) (x4_1:Int) (x1001_1:Int) (x1002_1:Int),v4 = .int .i64 x4_1∧Aside0 (spec_l6List.l0 kq x3_1 x4_1 s0_0 x1001_1 x1002_1=some (r1,r2,r3))∧Aside0 (kq≤k)∧Aside0 (Kd.R Kd.string 9 w' w.heap.size (fun _=>True) v3 x3_1)∧Aside0 (IsS105 w0 w' g s0_0 x1001_1 x1002_1)∧Aside0 (KeepBut w w' g none)∧Aside0 (Below w0.heap.size w0 w'))
 case atStart => exact ⟨(y601),(t7),(t8),(t9),e1_,H',⟨Nat.le_refl _⟩,⟨kr_ HO3.out⟩,⟨in105_ HI0⟩,⟨kn_ HK⟩,⟨bi105_ HB⟩⟩
 case round =>
  clear H'
  obtain ⟨x3_1,x4_1,x1001_1,x1002_1,rfl,HA,HK1,HO_3,HI0,HK,HB⟩:=hrel
  cases gk with
  | zero=>exact absurd HA.out (by simp [spec_l6List.l0])
  | succ k1 =>
   have H:=HA.out
   clear HA
   simp only [spec_l6List.l0] at H
   replace H:=it_ H;obtain ⟨c9,H⟩|⟨c9,H⟩:=H
   ·have c9b0:decide (0 < x4_1)=true:=decide_eq_true c9
    clear c9
    obtain ⟨y10,hy10⟩:∃ y_:List ByteArray,y_=(([(⟨#[]⟩:ByteArray),(⟨#[97]⟩:ByteArray),(⟨#[98]⟩:ByteArray),(⟨#[120,121,122]⟩:ByteArray)]:List ByteArray)):=⟨_,rfl⟩
    replace H:((spec_l1Str.f s0_0 x1001_1 x1002_1 y10).bind fun bt13=>(if x3_1.length < 8796093022208 then (spec_l6List.l0 k1 (x3_1 ++ [bt13.1]) (wrap64 (x4_1 - 1)) s0_0 bt13.2.1 bt13.2.2) else (none)))=some (r1,r2,r3):=yh_ hy10 H
    have Ny10:=am_ hy10
    clear hy10
    replace H:=bi_ H;obtain ⟨⟨t13,t14,t15⟩,A10,H⟩:=H
    dsimp only at H
    replace H:=ip_ H;obtain ⟨c11,H⟩:=H
    have LMc11:=am_ c11
    clear c11
    obtain ⟨y16,hy16⟩:∃ y_:List ByteArray,y_=(x3_1 ++ [t13]):=⟨_,rfl⟩
    replace H:(spec_l6List.l0 k1 y16 (wrap64 (x4_1 - 1)) s0_0 t14 t15)=some (r1,r2,r3):=yh_ hy16 H
    have Ny16:=am_ hy16
    clear hy16
    have H':=am_ H
    clear H
    go_wp2_with (first|((with_reducible refine gd_ 15 ?_);refine rl_ Kd.string 9 15 ([(⟨#[]⟩:ByteArray),(⟨#[97]⟩:ByteArray),(⟨#[98]⟩:ByteArray),(⟨#[120,121,122]⟩:ByteArray)]:List ByteArray) [.string (⟨#[]⟩:ByteArray),.string (⟨#[97]⟩:ByteArray),.string (⟨#[98]⟩:ByteArray),.string (⟨#[120,121,122]⟩:ByteArray)] ?_;intro v11 w12 ho13 hb hg_ hnew_;clear hg_ hnew_;(first|rw [← Ny10.out] at ho13|(simp only [Int.reduceToNat] at ho13;rw [← Ny10.out] at ho13));have HO12:=am_ (Kd.R_lower (Kd.R_new' ho13 (lt_ HO_3)) (keep_size (w:=w) (g:=g) (row:=none) (kn_ HK)));replace HO_3:=re_ HO_3 ho13 hb;replace HK:=am_ (KeepBut.trans (kn_ HK) (KeepBut.of_below hb g none) (.inl rfl));replace HB:=am_ (below_step (bs1_ HB (IsS105.ge HI0.out)) hb);replace HI0:=am_ (IsS105.below (in105_ HI0) hb);clear hb ho13;obtain ⟨Ao14,co14,eo14⟩:=Kd.R_slice HO12.out;subst eo14)|((with_reducible refine gq_ 139 16 ?_);refine gc_ 16 Tryz.func139 (spec_l1Str.calls g s0_0 x1001_1 x1002_1 _ _ y10 t13 t14 t15 w0 _ (in105_ HI0) (bi105_ HB) (ch_ HO12) (cl_ HO12) (far_slice (IsS105.own_ne HI0.out HO12.out (by decide))) A10.out) ?_;rintro e w15 ⟨rfl,hi,hb,hk⟩;refine ⟨_,rfl,?_⟩;have i_:=iw105_ hk (show IsS105 w0 _ g s0_0 x1001_1 x1002_1 from in105_ HI0);replace HO_3:=rat105_ i_ (kr_ HO_3.out) hk;replace HO12:=rat105_ i_ (kr_ HO12.out) hk;clear i_;replace HK:=ktr_ HK hk;replace HB:=am_ hb;replace HI0:=am_ hi;clear hb hk hi)|((with_reducible refine gate_builtin (b:=.append) (xs:=#[.tmp 13,.tmp 17]) rfl ?_);at_builtin;refine Kd.R_append Kd.string w.heap.size rfl (.tmp 13) (.tmp 17) 22 9 (.string ⟨#[]⟩) 16 rfl Tryz.underlying22 info9 rfl (by decide) (by omega) u3 x3_1 t13 [.string t13] (fun k_=>some k_ ≠ (.slice Ao14 y10.length co14:Value).ownBlock) (fun _=>False) rfl rfl ?aP (fun _ hk=>hk.elim) ?aF ?aO (Below.refl _ _) ?aS ?aL ?_;(case aP=>exact rfl);(case aF=>exact (fun k_ hk=>Kd.fresh' (lt_ HO12) k_ hk));(case aO=>exact (kr_ (Kd.R_mono HO_3.out (fun _ hk=>hk.2))));(case aS=>exact (keep_size (w:=w) (g:=g) (row:=none) (kn_ HK)));(case aL=>have:=LMc11.out;omega);intro v17 w16 ho hb hg hat;rw [← Ny16.out] at ho;replace HO12:=am_ (Kd.R_after (ok:=(fun _=>True)) (kr_ HO12.out) hg hat);replace HB:=am_ (below_weaken (bs1_ HB (IsS105.ge HI0.out)) HL.out hb);replace HI0:=am_ (IsS105.grown (in105_ HI0) hg (IsS105.own_ne HI0.out HO_3.out (by decide)));replace HK:=am_ (KeepBut.trans (kn_ HK) (KeepBut.of_grown hg g) (Kd.R_base2 HO_3.out));have HO18:=am_ ho;clear HO_3;clear ho hb hg hat))
    go_roundg k1
    case measure => have:=HK1.out;omega
    case rel => exact ⟨(y16),(wrap64 (x4_1 - 1)),(t14),(t15),e1_,H',⟨by have:=HK1.out;omega⟩,⟨km_ HO18⟩,⟨in105_ HI0⟩,⟨kn_ HK⟩,⟨bi105_ HB⟩⟩
   ·have c9b0:decide (0 < x4_1)=false:=decide_eq_false c9
    clear c9
    replace H:=so3_ H;obtain ⟨rfl,rfl,rfl⟩:=H
    go_wp2
    go_ret
    exact ⟨_,e2_,kr_ HO_3.out,in105_ HI0,bi105_ HB,kn_ HK⟩
def spec_l1Once.f (s0_0:List Int) (s0_1:Int) (s0_2:Int) (a1:Int):Option (Bool × Int × Int):=(spec_l1Below.f s0_0 s0_1 s0_2 a1).bind fun bt1=>(some ((bt1.1 == 0),bt1.2.1,bt1.2.2))
theorem spec_l1Once.calls (g:Nat) (s0_0:List Int) (s0_1:Int) (s0_2:Int) (a1:Int) (r1:Bool) (r2:Int) (r3:Int) (w0 w:World) (hI:IsS105 w0 w g s0_0 s0_1 s0_2) (hB:Below w0.heap.size w0 w) (h:spec_l1Once.f s0_0 s0_1 s0_2 a1=some (r1,r2,r3)) :
  Calls Tryz.prog 114 #[.pointer (some ⟨g,0,none⟩),.int .i64 a1] w fun e w'=>e = .returned (.bool r1)∧IsS105 w0 w' g s0_0 r2 r3∧Below w0.heap.size w0 w'∧KeepBut w w' g none:=by
 have HI0:=am_ hI
 have HK:=am_ (KeepBut.refl w g none)
 have HL:=am_ hB.size
 clear hI
 have HW0:=am_ hB.size
 have HB:=am_ hB
 clear hB
 have H:((spec_l1Below.f s0_0 s0_1 s0_2 a1).bind fun bt1=>(some ((bt1.1 == 0),bt1.2.1,bt1.2.2)))=some (r1,r2,r3):=h
 clear h
 replace H:=bi_ H;obtain ⟨⟨t1,t602,t3⟩,A3,H⟩:=H
 dsimp only at H
 replace H:=so3_ H;obtain ⟨rfl,rfl,rfl⟩:=H
 go_enter Tryz.func114,Tryz.ntmps114
 go_wp2_with (first|((with_reducible refine gq_ 87 7 ?_);refine gc_ 7 Tryz.func87 (spec_l1Below.calls g s0_0 s0_1 s0_2 a1 t1 t602 t3 w0 _ (in105_ HI0) (bi105_ HB) A3.out) ?_;rintro e w4 ⟨rfl,hi,hb,hk⟩;refine ⟨_,rfl,?_⟩;replace HK:=ktr_ HK hk;replace HB:=am_ hb;replace HI0:=am_ hi;clear hb hk hi))
 go_ret
 exact ⟨e2_,in105_ HI0,bi105_ HB,kn_ HK⟩
def spec_l10Table.l0:Nat->List ByteArray->List (S37)->Int->List Int->Int->Int->Option ((List (S37)) × Int × Int)
 | 0,_,_,_,_,_,_=>none
 | k+1,x1,x5,x6,x1000,x1001,x1002=>if x6≤(x1.length:Int) then ((spec_l1Once.f x1000 x1001 x1002 3).bind fun bt4=>(if bt4.1=true then (if x6=(x1.length:Int) then (if 0≤x6 then ((spec_HeadOf.f k (x1.take (x6:Int).toNat)).bind fun bt8=>(if x5.length < 5864062014805 then (spec_l10Table.l0 k x1 (x5 ++ [(⟨bt8.1,bt8.2⟩:S37)]) (wrap64 (x6+1)) x1000 bt4.2.1 bt4.2.2) else (none))) else (none)) else (spec_l10Table.l0 k x1 x5 (wrap64 (x6+1)) x1000 bt4.2.1 bt4.2.2)) else (if 0≤x6 then ((spec_HeadOf.f k (x1.take (x6:Int).toNat)).bind fun bt14=>(if x5.length < 5864062014805 then (spec_l10Table.l0 k x1 (x5 ++ [(⟨bt14.1,bt14.2⟩:S37)]) (wrap64 (x6+1)) x1000 bt4.2.1 bt4.2.2) else (none))) else (none)))) else (some (x5,x1001,x1002))
def spec_l10Table.f (k:Nat) (s0_0:List Int) (s0_1:Int) (s0_2:Int) (l1:List ByteArray):Option ((List (S37)) × Int × Int):=spec_l10Table.l0 k l1 (([]:List (S37))) 0 s0_0 s0_1 s0_2
theorem spec_l10Table.calls (k:Nat) (g:Nat) (s0_0:List Int) (s0_1:Int) (s0_2:Int) (A1:Option Addr) (c1:Nat) (l1:List ByteArray) (r1:List (S37)) (r2:Int) (r3:Int) (w0 w:World) (hI:IsS105 w0 w g s0_0 s0_1 s0_2) (hB:Below w0.heap.size w0 w) (hr1:Kd.C Kd.string w A1 l1.length l1) (hc1:l1.length≤c1) (hf1:∀ ad,A1=some ad->0 < l1.length->ad.block ≠ g) (h:spec_l10Table.f k s0_0 s0_1 s0_2 l1=some (r1,r2,r3)) :
  Calls Tryz.prog 117 #[.pointer (some ⟨g,0,none⟩),.slice A1 l1.length c1] w fun e w'=>∃ v0_:Value,e = .returned (v0_)∧Kd.R k37 37 w' w.heap.size (fun _=>True) v0_ r1∧IsS105 w0 w' g s0_0 r2 r3∧Below w0.heap.size w0 w'∧KeepBut w w' g none:=by
 have HR1:=am_ hr1
 have HC1:=am_ hc1
 clear hr1 hc1
 have HI0:=am_ hI
 have HK:=am_ (KeepBut.refl w g none)
 have HL:=am_ hB.size
 clear hI
 have HW0:=am_ hB.size
 have HB:=am_ hB
 clear hB
 have H:(spec_l10Table.l0 k l1 (([]:List (S37))) 0 s0_0 s0_1 s0_2)=some (r1,r2,r3):=h
 clear h
 obtain ⟨y601,hy1⟩:∃ y_:List (S37),y_=(([]:List (S37))):=⟨_,rfl⟩
 replace H:(spec_l10Table.l0 k l1 y601 0 s0_0 s0_1 s0_2)=some (r1,r2,r3):=yh_ hy1 H
 have Ny1:=am_ hy1
 clear hy1
 have H':=am_ H
 clear H
 go_enter Tryz.func117,Tryz.ntmps117
 go_wp2_with (first|((with_reducible refine gd_ 7 ?_);(try (refine gate_guard (by rfl) ?_;dsimp only));refine Kd.R_lit k37 _ 37 ?hg (N:=7) ?hd (xs:=([]:List (S37))) (inner:=[]) (ok:=fun _=>True) (okp:=fun _=>True) ?hr ?hp (fun _ hk=>hk) trivial (Below.refl _ _) (Nat.le_refl _) (by simp) ?_;(case hd=>rfl);(case hg=>rfl);(case hr=>first|(go_simp;done)|(go_simp;rfl));(case hp=>exact (Reps.none _ _));intro v2 w3 ho4 hb hg_ hnew_;clear hg_ hnew_;(first|rw [← Ny1.out] at ho4|(simp only [Int.reduceToNat] at ho4;rw [← Ny1.out] at ho4));have HO3:=am_ (Kd.R_lower ho4 (keep_size (w:=w) (g:=g) (row:=none) (kn_ HK)));replace HK:=am_ (KeepBut.trans (kn_ HK) (KeepBut.of_below hb g none) (.inl rfl));replace HB:=am_ (below_step (bs1_ HB (IsS105.ge HI0.out)) hb);replace HI0:=am_ (IsS105.below (in105_ HI0) hb);clear hb ho4))
 go_loopg [5,6] k (fun kq v5 v6 w'=>∃ (x5_1:List (S37)) (x6_1:Int) (x1001_1:Int) (x1002_1:Int),v6 = .int .i64 x6_1∧Aside0 (spec_l10Table.l0 kq l1 x5_1 x6_1 s0_0 x1001_1 x1002_1=some (r1,r2,r3))∧Aside0 (kq≤k)∧Aside0 (Kd.R k37 37 w' w.heap.size (fun _=>True) v5 x5_1)∧Aside0 (IsS105 w0 w' g s0_0 x1001_1 x1002_1)∧Aside0 (KeepBut w w' g none)∧Aside0 (Below w0.heap.size w0 w'))
 case atStart => exact ⟨(y601),(0),(s0_1),(s0_2),e1_,H',⟨Nat.le_refl _⟩,⟨kr_ HO3.out⟩,⟨in105_ HI0⟩,⟨kn_ HK⟩,⟨bi105_ HB⟩⟩
 case round =>
  clear H'
  obtain ⟨x5_1,x6_1,x1001_1,x1002_1,rfl,HA,HK1,HO_5,HI0,HK,HB⟩:=hrel
  cases gk with
  | zero=>exact absurd HA.out (by simp [spec_l10Table.l0])
  | succ k1 =>
   have H:=HA.out
   clear HA
   simp only [spec_l10Table.l0] at H
   replace H:=itd_ H;obtain ⟨c5b0,H⟩|⟨c5b0,H⟩:=H
   ·replace H:=bi_ H;obtain ⟨⟨t4,t5,t6⟩,A6,H⟩:=H
    dsimp only at H
    replace H:=itb_ H;obtain ⟨rfl,H⟩|⟨rfl,H⟩:=H
    ·replace H:=it_ H;obtain ⟨c8,H⟩|⟨c8,H⟩:=H
     ·have c8b0:(x6_1 == (l1.length:Int))=true:=beq_iff_eq.mpr c8
      have c8b1:(x6_1 != (l1.length:Int))=false:=bne_eq_false_iff_eq.mpr c8
      clear c8
      replace H:=ip_ H;obtain ⟨c9,H⟩:=H
      have c9b0:=eq_true c9
      have c9b1:=decide_eq_true c9
      clear c9
      have c10b0:=eq_true (od_:x6_1≤(l1.length:Int))
      replace H:=bi_ H;obtain ⟨⟨t8,t9⟩,A11,H⟩:=H
      dsimp only at H
      replace H:=ip_ H;obtain ⟨c12,H⟩:=H
      have LMc12:=am_ c12
      clear c12
      obtain ⟨y10,hy10⟩:∃ y_:List (S37),y_=(x5_1 ++ [(⟨t8,t9⟩:S37)]):=⟨_,rfl⟩
      replace H:(spec_l10Table.l0 k1 l1 y10 (wrap64 (x6_1+1)) s0_0 t5 t6)=some (r1,r2,r3):=yh_ hy10 H
      have Ny10:=am_ hy10
      clear hy10
      have H':=am_ H
      clear H
      go_wp2_with (first|((with_reducible refine gq_ 114 15 ?_);refine gc_ 15 Tryz.func114 (spec_l1Once.calls g s0_0 x1001_1 x1002_1 3 true t5 t6 w0 _ (in105_ HI0) (bi105_ HB) A6.out) ?_;rintro e w13 ⟨rfl,hi,hb,hk⟩;refine ⟨_,rfl,?_⟩;have i_:=iw105_ hk (show IsS105 w0 _ g s0_0 x1001_1 x1002_1 from in105_ HI0);replace HO_5:=rat105_ i_ (kr_ HO_5.out) hk;clear i_;replace HK:=ktr_ HK hk;replace HB:=am_ hb;replace HI0:=am_ hi;clear hb hk hi;obtain ⟨i014,hi014,_,hsz14,_⟩:=info_parts info9;obtain ⟨hcut14,hA14,hC14⟩:=print_take_of (P:=Tryz.prog) Value.string (⟨#[]⟩:ByteArray) 22 9 .i64 Tryz.underlying22 hi014 hsz14 A1 c1 l1 x6_1 (od_) (od_) HC1.out;have HR7:=am_ (Kd.C_of_reads (h1:=fun _=>rfl) (hA14 _ (Kd.reads_of_C HR1.out)));have HC7:=am_ hC14;have hf7:∀ ad:Addr,A1=some ad->0 < (l1.take (x6_1:Int).toNat).length->ad.block ≠ g:=fun ad he h_=>(by cases he;exact Kd.foot_ne (fun W_ hk_=>Kd.C_of_reads (h1:=fun _=>rfl) (hA14 _ (Kd.reads_of_C (Kd.C_foot_ne (fun h=>h) HR1.out hf1 W_ hk_)))) h_ (by decide));clear hA14 hC14 hi014 hsz14)|((with_reducible refine gk_ 110 ?_);refine gl_ 27 Tryz.func110 #[.slice A1 (l1.take (x6_1:Int).toNat).length c1] ?_ (hargs:=(by (try simp only [List.map_toArray,List.map_cons,List.map_nil]);first|done|(rw [show (l1.take (x6_1:Int).toNat).length=x6_1.toNat from (by rw [List.length_take];have h_:(x6_1:Int)≤(l1.length:Int):=od_;omega)] <;> rfl)|rfl|(simp only [List.length_drop,List.length_take];rfl)));(with_reducible refine (spec_HeadOf.calls k1 _ _ (l1.take (x6_1:Int).toNat) t8 t9 _ ?side1 ?side2 A11.out).mono ?_);(case side1=>exact Kd.C_keep (⟨#[]⟩:ByteArray) HR7.out (kn_ HK) hf7);(case side2=>exact HC7.out);rintro e w15 ⟨rfl,hb⟩;refine ⟨_,rfl,?_⟩;replace HO_5:=rb_ HO_5 hb;replace HK:=am_ (KeepBut.trans (kn_ HK) (KeepBut.of_below hb g none) (.inl rfl));replace HB:=am_ (below_step (bs1_ HB (IsS105.ge HI0.out)) hb);replace HI0:=am_ (IsS105.below (in105_ HI0) hb);clear hb)|((with_reducible refine gate_builtin (b:=.append) (xs:=#[.tmp 23,.tmp 28]) rfl ?_);(try (refine gate_guard (by rfl) ?_;dsimp only));at_builtin;refine Kd.R_append k37 w.heap.size rfl (.tmp 23) (.tmp 28) 45 37 (.agg #[(.int .i64 0),(.string ⟨#[]⟩)]) 24 rfl Tryz.underlying45 info37 rfl (by decide) (by omega) u5 x5_1 (⟨t8,t9⟩:S37) [.int .i64 t8,.string t9] (fun _=>True) (fun _=>False) rfl rfl ?aP (fun _ hk=>hk.elim) ?aF ?aO (Below.refl _ _) ?aS ?aL ?_;(case aP=>exact k37_mkM _ _ _ (⟨t8,t9⟩:S37));(case aF=>exact (fun _ _=>trivial));(case aO=>exact (kr_ HO_5.out));(case aS=>exact (keep_size (w:=w) (g:=g) (row:=none) (kn_ HK)));(case aL=>have:=LMc12.out;omega);intro v11 w16 ho hb hg hat;rw [← Ny10.out] at ho;replace HB:=am_ (below_weaken (bs1_ HB (IsS105.ge HI0.out)) HL.out hb);replace HI0:=am_ (IsS105.grown (in105_ HI0) hg (IsS105.own_ne HI0.out HO_5.out (by decide)));replace HK:=am_ (KeepBut.trans (kn_ HK) (KeepBut.of_grown hg g) (Kd.R_base2 HO_5.out));have HO12:=am_ ho;clear HO_5;clear ho hb hg hat))
      go_roundg k1
      case measure => have:=HK1.out;omega
      case rel => exact ⟨(y10),(wrap64 (x6_1+1)),(t5),(t6),e1_,H',⟨by have:=HK1.out;omega⟩,⟨kr_ HO12.out⟩,⟨in105_ HI0⟩,⟨kn_ HK⟩,⟨bi105_ HB⟩⟩
     ·have c8b0:(x6_1 == (l1.length:Int))=false:=beq_eq_false_iff_ne.mpr c8
      have c8b1:(x6_1 != (l1.length:Int))=true:=bne_iff_ne.mpr c8
      have H':=am_ H
      clear H
      go_wp2_with (first|((with_reducible refine gq_ 114 15 ?_);refine gc_ 15 Tryz.func114 (spec_l1Once.calls g s0_0 x1001_1 x1002_1 3 true t5 t6 w0 _ (in105_ HI0) (bi105_ HB) A6.out) ?_;rintro e w17 ⟨rfl,hi,hb,hk⟩;refine ⟨_,rfl,?_⟩;have i_:=iw105_ hk (show IsS105 w0 _ g s0_0 x1001_1 x1002_1 from in105_ HI0);replace HO_5:=rat105_ i_ (kr_ HO_5.out) hk;clear i_;replace HK:=ktr_ HK hk;replace HB:=am_ hb;replace HI0:=am_ hi;clear hb hk hi))
      go_roundg k1
      case measure => have:=HK1.out;omega
      case rel => exact ⟨(x5_1),(wrap64 (x6_1+1)),(t5),(t6),e1_,H',⟨by have:=HK1.out;omega⟩,⟨kr_ HO_5.out⟩,⟨in105_ HI0⟩,⟨kn_ HK⟩,⟨bi105_ HB⟩⟩
    ·replace H:=ip_ H;obtain ⟨c18,H⟩:=H
     have c18b0:=eq_true c18
     have c18b1:=decide_eq_true c18
     clear c18
     have c19b0:=eq_true (od_:x6_1≤(l1.length:Int))
     replace H:=bi_ H;obtain ⟨⟨t14,t15⟩,A20,H⟩:=H
     dsimp only at H
     replace H:=ip_ H;obtain ⟨c21,H⟩:=H
     have LMc21:=am_ c21
     clear c21
     obtain ⟨y16,hy16⟩:∃ y_:List (S37),y_=(x5_1 ++ [(⟨t14,t15⟩:S37)]):=⟨_,rfl⟩
     replace H:(spec_l10Table.l0 k1 l1 y16 (wrap64 (x6_1+1)) s0_0 t5 t6)=some (r1,r2,r3):=yh_ hy16 H
     have Ny16:=am_ hy16
     clear hy16
     have H':=am_ H
     clear H
     go_wp2_with (first|((with_reducible refine gq_ 114 15 ?_);refine gc_ 15 Tryz.func114 (spec_l1Once.calls g s0_0 x1001_1 x1002_1 3 false t5 t6 w0 _ (in105_ HI0) (bi105_ HB) A6.out) ?_;rintro e w22 ⟨rfl,hi,hb,hk⟩;refine ⟨_,rfl,?_⟩;have i_:=iw105_ hk (show IsS105 w0 _ g s0_0 x1001_1 x1002_1 from in105_ HI0);replace HO_5:=rat105_ i_ (kr_ HO_5.out) hk;clear i_;replace HK:=ktr_ HK hk;replace HB:=am_ hb;replace HI0:=am_ hi;clear hb hk hi;obtain ⟨i023,hi023,_,hsz23,_⟩:=info_parts info9;obtain ⟨hcut23,hA23,hC23⟩:=print_take_of (P:=Tryz.prog) Value.string (⟨#[]⟩:ByteArray) 22 9 .i64 Tryz.underlying22 hi023 hsz23 A1 c1 l1 x6_1 (od_) (od_) HC1.out;have HR13:=am_ (Kd.C_of_reads (h1:=fun _=>rfl) (hA23 _ (Kd.reads_of_C HR1.out)));have HC13:=am_ hC23;have hf13:∀ ad:Addr,A1=some ad->0 < (l1.take (x6_1:Int).toNat).length->ad.block ≠ g:=fun ad he h_=>(by cases he;exact Kd.foot_ne (fun W_ hk_=>Kd.C_of_reads (h1:=fun _=>rfl) (hA23 _ (Kd.reads_of_C (Kd.C_foot_ne (fun h=>h) HR1.out hf1 W_ hk_)))) h_ (by decide));clear hA23 hC23 hi023 hsz23)|((with_reducible refine gk_ 110 ?_);refine gl_ 27 Tryz.func110 #[.slice A1 (l1.take (x6_1:Int).toNat).length c1] ?_ (hargs:=(by (try simp only [List.map_toArray,List.map_cons,List.map_nil]);first|done|(rw [show (l1.take (x6_1:Int).toNat).length=x6_1.toNat from (by rw [List.length_take];have h_:(x6_1:Int)≤(l1.length:Int):=od_;omega)] <;> rfl)|rfl|(simp only [List.length_drop,List.length_take];rfl)));(with_reducible refine (spec_HeadOf.calls k1 _ _ (l1.take (x6_1:Int).toNat) t14 t15 _ ?side1 ?side2 A20.out).mono ?_);(case side1=>exact Kd.C_keep (⟨#[]⟩:ByteArray) HR13.out (kn_ HK) hf13);(case side2=>exact HC13.out);rintro e w24 ⟨rfl,hb⟩;refine ⟨_,rfl,?_⟩;replace HO_5:=rb_ HO_5 hb;replace HK:=am_ (KeepBut.trans (kn_ HK) (KeepBut.of_below hb g none) (.inl rfl));replace HB:=am_ (below_step (bs1_ HB (IsS105.ge HI0.out)) hb);replace HI0:=am_ (IsS105.below (in105_ HI0) hb);clear hb)|((with_reducible refine gate_builtin (b:=.append) (xs:=#[.tmp 23,.tmp 28]) rfl ?_);(try (refine gate_guard (by rfl) ?_;dsimp only));at_builtin;refine Kd.R_append k37 w.heap.size rfl (.tmp 23) (.tmp 28) 45 37 (.agg #[(.int .i64 0),(.string ⟨#[]⟩)]) 24 rfl Tryz.underlying45 info37 rfl (by decide) (by omega) u5 x5_1 (⟨t14,t15⟩:S37) [.int .i64 t14,.string t15] (fun _=>True) (fun _=>False) rfl rfl ?aP (fun _ hk=>hk.elim) ?aF ?aO (Below.refl _ _) ?aS ?aL ?_;(case aP=>exact k37_mkM _ _ _ (⟨t14,t15⟩:S37));(case aF=>exact (fun _ _=>trivial));(case aO=>exact (kr_ HO_5.out));(case aS=>exact (keep_size (w:=w) (g:=g) (row:=none) (kn_ HK)));(case aL=>have:=LMc21.out;omega);intro v17 w25 ho hb hg hat;rw [← Ny16.out] at ho;replace HB:=am_ (below_weaken (bs1_ HB (IsS105.ge HI0.out)) HL.out hb);replace HI0:=am_ (IsS105.grown (in105_ HI0) hg (IsS105.own_ne HI0.out HO_5.out (by decide)));replace HK:=am_ (KeepBut.trans (kn_ HK) (KeepBut.of_grown hg g) (Kd.R_base2 HO_5.out));have HO18:=am_ ho;clear HO_5;clear ho hb hg hat))
     go_roundg k1
     case measure => have:=HK1.out;omega
     case rel => exact ⟨(y16),(wrap64 (x6_1+1)),(t5),(t6),e1_,H',⟨by have:=HK1.out;omega⟩,⟨kr_ HO18.out⟩,⟨in105_ HI0⟩,⟨kn_ HK⟩,⟨bi105_ HB⟩⟩
   ·replace H:=so3_ H;obtain ⟨rfl,rfl,rfl⟩:=H
    go_wp2
    go_ret
    exact ⟨_,e2_,kr_ HO_5.out,in105_ HI0,bi105_ HB,kn_ HK⟩
def spec_l12Commit.f (k:Nat) (l0_0:List ByteArray) (a0_1:Int) (a0_2:ByteArray) (l0_3:List Int) (a0_4:Int) (l1:List (S37)) (a2_0:Int) (a2_1:ByteArray) (l3:List ByteArray):Option (List ByteArray × Int × ByteArray × List Int × Int × Int):=(spec_l12Copy.f l0_0 a0_1 a0_2 l0_3 a0_4).bind fun bt4=>((spec_Extend.f k l0_0 a0_1 a0_2 l1 a2_0 a2_1 l3).bind fun bt14=>(if bt14.2.2.2=0 then ((spec_l12Put.f k a2_0 a2_1 l3).bind fun t21=>(if bt4.2.2.2.1.length+t21.length < 140737488355328 then (some (bt14.1,bt14.2.1,bt14.2.2.1,(bt4.2.2.2.1 ++ t21),bt4.2.2.2.2,0)) else (none))) else (some (bt4.1,bt4.2.1,bt4.2.2.1,bt4.2.2.2.1,bt4.2.2.2.2,bt14.2.2.2))))
def spec_l12Commit.T6:Bool × List (List Nat × List Nat):=(true,[([],[]),([0],[0]),([],[]),([],[]),([2,3],[2,3]),([1,4,4],[1,4]),([0,1,2,3,4,5],[]),([6,5,5,0,1,2,3,4,5],[5,6])])
def spec_l12Commit.B6:List Nat:=[0,1,0,0,12,31,63,127]
theorem spec_l12Commit.tab6:rtab .any (opsOf Tryz.f128 6)=spec_l12Commit.T6:=by kernel_rfl
theorem spec_l12Commit.bits6:waitsOk spec_l12Commit.T6.2 spec_l12Commit.B6=true:=by kernel_rfl
theorem spec_l12Commit.calls (k:Nat) (A0_0:Option Addr) (c0_0:Nat) (l0_0:List ByteArray) (a0_1:Int) (a0_2:ByteArray) (A0_3:Option Addr) (c0_3:Nat) (l0_3:List Int) (a0_4:Int) (A1:Option Addr) (c1:Nat) (l1:List (S37)) (a2_0:Int) (a2_1:ByteArray) (A3:Option Addr) (c3:Nat) (l3:List ByteArray) (r1:List ByteArray) (r2:Int) (r3:ByteArray) (r4:List Int) (r5:Int) (r6:Int) (w:World) (hr0_0:Kd.C Kd.string w A0_0 l0_0.length l0_0) (hc0_0:l0_0.length≤c0_0) (hr0_3:Kd.C (Kd.int .u8) w A0_3 l0_3.length l0_3) (hc0_3:l0_3.length≤c0_3) (hr1:Kd.C k37 w A1 l1.length l1) (hc1:l1.length≤c1) (hr3:Kd.C Kd.string w A3 l3.length l3) (hc3:l3.length≤c3) (h:spec_l12Commit.f k l0_0 a0_1 a0_2 l0_3 a0_4 l1 a2_0 a2_1 l3=some (r1,r2,r3,r4,r5,r6)) :
  Calls Tryz.prog 128 #[.agg #[.slice A0_0 l0_0.length c0_0,.int .i64 a0_1,.string a0_2,.slice A0_3 l0_3.length c0_3,.int .i64 a0_4],.slice A1 l1.length c1,.agg #[.int .i64 a2_0,.string a2_1],.slice A3 l3.length c3] w fun e w'=>∃ v0_ v3_:Value,e = .returned (.tuple #[.agg #[v0_,.int .i64 r2,.string r3,v3_,.int .i64 r5],.int .i64 r6])∧Kd.R Kd.string 9 w' w.heap.size (fun _=>True) v0_ r1∧Kd.R (Kd.int .u8) 5 w' w.heap.size (fun _=>True) v3_ r4∧Below w.heap.size w w':=by
 have hu41:=Tryz.underlying41
 have hu37:=Tryz.underlying37
 have hu39:=Tryz.underlying39
 have HR0_0:=am_ hr0_0
 have HC0_0:=am_ hc0_0
 clear hr0_0 hc0_0
 have HR0_3:=am_ hr0_3
 have HC0_3:=am_ hc0_3
 clear hr0_3 hc0_3
 have HR1:=am_ hr1
 have HC1:=am_ hc1
 clear hr1 hc1
 have HR3:=am_ hr3
 have HC3:=am_ hc3
 clear hr3 hc3
 have HB:=h0_ w
 have H:((spec_l12Copy.f l0_0 a0_1 a0_2 l0_3 a0_4).bind fun bt4=>((spec_Extend.f k l0_0 a0_1 a0_2 l1 a2_0 a2_1 l3).bind fun bt14=>(if bt14.2.2.2=0 then ((spec_l12Put.f k a2_0 a2_1 l3).bind fun t21=>(if bt4.2.2.2.1.length+t21.length < 140737488355328 then (some (bt14.1,bt14.2.1,bt14.2.2.1,(bt4.2.2.2.1 ++ t21),bt4.2.2.2.2,0)) else (none))) else (some (bt4.1,bt4.2.1,bt4.2.2.1,bt4.2.2.2.1,bt4.2.2.2.2,bt14.2.2.2)))))=some (r1,r2,r3,r4,r5,r6):=h
 clear h
 replace H:=bi_ H;obtain ⟨⟨t4,t7,t8,t9,t12⟩,A5,H⟩:=H
 dsimp only at H
 replace H:=bi_ H;obtain ⟨⟨t14,t17,t18,t19⟩,A6,H⟩:=H
 dsimp only at H
 replace H:=it_ H;obtain ⟨c7,H⟩|⟨c7,H⟩:=H
 ·have c7b0:(t19 == 0)=true:=beq_iff_eq.mpr c7
  have c7b1:(t19 != 0)=false:=bne_eq_false_iff_eq.mpr c7
  clear c7
  replace H:=bi_ H;obtain ⟨t21,A8,H⟩:=H
  replace H:=ip_ H;obtain ⟨c9,H⟩:=H
  have LMc9:=am_ c9
  clear c9
  obtain ⟨y24,hy24⟩:∃ y_:List Int,y_=(t9 ++ t21):=⟨_,rfl⟩
  replace H:(some (t14,t17,t18,y24,t12,0))=some (r1,r2,r3,r4,r5,r6):=yh_ hy24 H
  have Ny24:=am_ hy24
  clear hy24
  replace H:=so6_ H;obtain ⟨rfl,rfl,rfl,rfl,rfl,rfl⟩:=H
  go_enter Tryz.func128,Tryz.ntmps128
  try go_wp2_with (first|((with_reducible refine gd_ 4 ?_);refine bx_ 4 41 #[.slice A0_0 l0_0.length c0_0,.int .i64 a0_1,.string a0_2,.slice A0_3 l0_3.length c0_3,.int .i64 a0_4] (hx_ HB ?_);clear HB;intro gb1 w10 BK1 GW1 HB;have GE1:=GW1)|((with_reducible refine gd_ 6 ?_);refine bx_ 6 37 #[.int .i64 a2_0,.string a2_1] ?_;intro gb2 hg w11 hbox hb;have BK2:=am_ hbox;have GW2:=gg_ hg HB;have GE2:=GW2;replace HB:=ss_ HB hb;have NB1_2:=nla_ hg BK1;have NB2_1:=nga_ hg BK1;replace BK1:=kl_ BK1 hb;clear hb hbox hg)|((with_reducible refine gd_ 8 ?_);refine x41_ 8 ?_;intro gb3 hg w12 hbox hb;have BK3:=am_ hbox;have GW3:=gg_ hg HB;have GE3:=GW3;replace HB:=ss_ HB hb;have NB1_3:=nla_ hg BK1;have NB3_1:=nga_ hg BK1;replace BK1:=kl_ BK1 hb;have NB2_3:=nla_ hg BK2;have NB3_2:=nga_ hg BK2;replace BK2:=kl_ BK2 hb;clear hb hbox hg;have hnb13:=NB1_2.out;have hnc13:=NB2_1.out;have hnb14:=NB1_3.out;have hnc14:=NB3_1.out;have hz15:=cz5_ BK1)|((with_reducible refine gq_ 93 14 ?_);refine gc_ 14 Tryz.func93 (spec_l12Copy.calls _ _ l0_0 a0_1 a0_2 _ _ l0_3 a0_4 t4 t7 t8 t9 t12 _ (cb_ HR0_0 HB) HC0_0.out (cb_ HR0_3 HB) HC0_3.out A5.out) ?_;rintro e w16 ⟨v5,v10,rfl,ho0,ho1,hb⟩;refine ⟨_,rfl,?_⟩;have HO6:=rlo_ ho0 HB;have HO11:=rlo_ ho1 HB;replace BK1:=kl_ BK1 hb;replace BK2:=kl_ BK2 hb;replace BK3:=kl_ BK3 hb;replace HB:=ss_ HB hb;clear hb ho0 ho1)|((with_reducible refine gd_ 10 ?_);refine x41_ 10 ?_;intro gb13 hg w17 hbox hb;replace HO6:=rb_ HO6 hb;replace HO11:=rb_ HO11 hb;have BK13:=am_ hbox;have GW13:=gg_ hg HB;have GE13:=GW13;replace HB:=ss_ HB hb;have NB1_13:=nla_ hg BK1;have NB13_1:=nga_ hg BK1;replace BK1:=kl_ BK1 hb;have NB2_13:=nla_ hg BK2;have NB13_2:=nga_ hg BK2;replace BK2:=kl_ BK2 hb;have NB3_13:=nla_ hg BK3;have NB13_3:=nga_ hg BK3;replace BK3:=kl_ BK3 hb;clear hb hbox hg;obtain ⟨Ao18,co18,eo18⟩:=Kd.R_slice HO6.out;subst eo18;have hnb19:=NB13_1.out;have hnc19:=NB1_13.out;have hnb20:=NB13_2.out;have hnc20:=NB2_13.out;have hnb21:=NB13_3.out;have hnc21:=NB3_13.out;have hz22:=cz5_ BK13;obtain ⟨Ao23,co23,eo23⟩:=Kd.R_slice HO11.out;subst eo23;have hz24:=cz5_ BK1;have hnb25:=NB2_3.out;have hnc25:=NB3_2.out;have hz26:=cz2_ BK2)|((with_reducible refine gq_ 150 21 ?_);refine gc_ 21 Tryz.func150 (spec_Extend.calls k _ _ l0_0 a0_1 a0_2 _ _ l1 a2_0 a2_1 _ _ l3 t14 t17 t18 t19 _ (Kd.C_below HR0_0.out (bw_ HB)) HC0_0.out (Kd.C_below HR1.out (bw_ HB)) HC1.out (Kd.C_below HR3.out (bw_ HB)) HC3.out A6.out) ?_;rintro e w27 ⟨v15,rfl,ho0,hb⟩;refine ⟨_,rfl,?_⟩;replace HO11:=rbf_ HO11 BK13 hb;have HO16:=am_ (Kd.R_lower (Kd.R_new' ho0 (lf_ HO6 BK13)) (sz_ HB));replace HO6:=ref_ HO6 BK13 ho0 hb;replace BK1:=kp_ BK1 hb;replace BK2:=kp_ BK2 hb;replace BK3:=kp_ BK3 hb;replace BK13:=kp_ BK13 hb;replace HB:=ss_ HB hb;clear hb ho0)|((with_reducible refine gd_ 11 ?_);refine x39_ 11 ?_;intro gb20 hg w28 hbox hb;replace HO6:=rb_ HO6 hb;replace HO11:=rb_ HO11 hb;replace HO16:=rb_ HO16 hb;have BK20:=am_ hbox;have GW20:=gg_ hg HB;have GE20:=GW20;replace HB:=ss_ HB hb;have NB1_20:=nla_ hg BK1;have NB20_1:=nga_ hg BK1;replace BK1:=kl_ BK1 hb;have NB2_20:=nla_ hg BK2;have NB20_2:=nga_ hg BK2;replace BK2:=kl_ BK2 hb;have NB3_20:=nla_ hg BK3;have NB20_3:=nga_ hg BK3;replace BK3:=kl_ BK3 hb;have NB13_20:=nla_ hg BK13;have NB20_13:=nga_ hg BK13;replace BK13:=kl_ BK13 hb;clear hb hbox hg;obtain ⟨Ao29,co29,eo29⟩:=Kd.R_slice HO16.out;subst eo29;have hnb30:=NB20_1.out;have hnc30:=NB1_20.out;have hnb31:=NB20_2.out;have hnc31:=NB2_20.out;have hnb32:=NB20_3.out;have hnc32:=NB3_20.out;have hnb33:=NB20_13.out;have hnc33:=NB13_20.out;have hz34:=cz3_ BK20;have hz35:=cz5_ BK13))
  obtain ⟨w36,hw_⟩:∃ w_:World,w_=((((((w28.setCell ⟨gb20,0,none⟩ (.slice Ao29 t14.length co29)).setCell ⟨gb20,1,none⟩ (.int .i64 t17)).setCell ⟨gb20,2,none⟩ (.string t18)).setCell ⟨gb13,0,none⟩ (.slice Ao29 t14.length co29)).setCell ⟨gb13,1,none⟩ (.int .i64 t17)).setCell ⟨gb13,2,none⟩ (.string t18)):=⟨_,rfl⟩
  replace HO6:Aside0 (Kd.R Kd.string 9 w36 w.heap.size (fun k_=>some k_ ≠ (.slice Ao29 t14.length co29:Value).ownBlock) (.slice Ao18 t4.length co18) t4):=⟨by rw [hw_];exact kr_ (Kd.R_mono (Kd.R_far (p:=⟨gb13,2,none⟩) (Kd.R_far (p:=⟨gb13,1,none⟩) (Kd.R_far (p:=⟨gb13,0,none⟩) (Kd.R_far (p:=⟨gb20,2,none⟩) (Kd.R_far (p:=⟨gb20,1,none⟩) (Kd.R_far (p:=⟨gb20,0,none⟩) (Kd.R_types (Kd.R_types HO6.out BK20.out (by decide)) BK13.out (by decide)) (fun _ hk=>hk.1.2) (.slice Ao29 t14.length co29)) (fun _ hk=>hk.1.2) (.int .i64 t17)) (fun _ hk=>hk.1.2) (.string t18)) (fun _ hk=>hk.2) (.slice Ao29 t14.length co29)) (fun _ hk=>hk.2) (.int .i64 t17)) (fun _ hk=>hk.2) (.string t18)) (fun _ hk=>hk.1.1.2))⟩
  replace HO11:Aside0 (Kd.R (Kd.int .u8) 5 w36 w.heap.size (fun _=>True) (.slice Ao23 t9.length co23) t9):=⟨by rw [hw_];exact kfm2_ HO11 BK20 BK13⟩
  replace HO16:Aside0 (Kd.R Kd.string 9 w36 w.heap.size (fun k_=>some k_ ≠ (.slice Ao18 t4.length co18:Value).ownBlock) (.slice Ao29 t14.length co29) t14):=⟨by rw [hw_];exact kr_ (Kd.R_mono (Kd.R_far (p:=⟨gb13,2,none⟩) (Kd.R_far (p:=⟨gb13,1,none⟩) (Kd.R_far (p:=⟨gb13,0,none⟩) (Kd.R_far (p:=⟨gb20,2,none⟩) (Kd.R_far (p:=⟨gb20,1,none⟩) (Kd.R_far (p:=⟨gb20,0,none⟩) (Kd.R_types (Kd.R_types HO16.out BK20.out (by decide)) BK13.out (by decide)) (fun _ hk=>hk.1.2) (.slice Ao29 t14.length co29)) (fun _ hk=>hk.1.2) (.int .i64 t17)) (fun _ hk=>hk.1.2) (.string t18)) (fun _ hk=>hk.2) (.slice Ao29 t14.length co29)) (fun _ hk=>hk.2) (.int .i64 t17)) (fun _ hk=>hk.2) (.string t18)) (fun _ hk=>hk.1.1.2))⟩
  replace BK1:Aside0 (w36.heap[gb1]?=some (.cells #[.slice A0_0 l0_0.length c0_0,.int .i64 a0_1,.string a0_2,.slice A0_3 l0_3.length c0_3,.int .i64 a0_4] 41 (0,0))):=⟨by rw [hw_];exact kq_ BK1⟩
  replace BK2:Aside0 (w36.heap[gb2]?=some (.cells #[.int .i64 a2_0,.string a2_1] 37 (0,0))):=⟨by rw [hw_];exact kq_ BK2⟩
  replace BK3:Aside0 (w36.heap[gb3]?=some (.cells #[.slice none 0 0,.int .i64 0,.string (⟨#[]⟩:ByteArray),.slice none 0 0,.int .i64 0] 41 (0,0))):=⟨by rw [hw_];exact kq_ BK3⟩
  replace BK13:Aside0 (w36.heap[gb13]?=some (.cells #[.slice Ao29 t14.length co29,.int .i64 t17,.string t18,.slice Ao23 t9.length co23,.int .i64 t12] 41 (0,0))):=⟨by rw [hw_];exact kq_ BK13⟩
  replace BK20:Aside0 (w36.heap[gb20]?=some (.cells #[.slice Ao29 t14.length co29,.int .i64 t17,.string t18] 39 (0,0))):=⟨by rw [hw_];exact kq_ BK20⟩
  replace HB:Aside0 (Below w.heap.size w w36):=⟨by rw [hw_];exact bw_ HB⟩
  rw [← hw_]
  clear hw_
  replace HO6:=am_ (Kd.R_drew HO6.out)
  replace HO11:=am_ (Kd.R_drew HO11.out)
  replace HO16:=am_ (Kd.R_drew HO16.out)
  replace BK1:=bd_ BK1
  replace BK2:=bd_ BK2
  replace BK3:=bd_ BK3
  replace BK13:=bd_ BK13
  replace BK20:=bd_ BK20
  replace HB:=hd_ HB
  refine sw_ 8 (fun w'=>w'.cell? ⟨gb13,0,none⟩=some (.slice Ao29 t14.length co29)∧w'.cell? ⟨gb13,1,none⟩=some (.int .i64 t17)∧w'.cell? ⟨gb13,2,none⟩=some (.string t18)∧w'.cell? ⟨gb13,3,none⟩=some (.slice Ao23 t9.length co23)∧w'.cell? ⟨gb13,4,none⟩=some (.int .i64 t12)∧w'.cell? ⟨gb2,0,none⟩=some (.int .i64 a2_0)∧w'.cell? ⟨gb2,1,none⟩=some (.string a2_1)) [7] spec_l12Commit.tab6 spec_l12Commit.bits6 ⟨bc0_ BK13.out,bc1_ BK13.out,bc2_ BK13.out,bc3_ BK13.out,bc4_ BK13.out,bc0_ BK2.out,bc1_ BK2.out⟩ (fun hHeld HT_ HW_=>?_)
  generalize w36.drew=w37 at HO6 HO11 HO16 BK1 BK2 BK3 BK13 BK20 HB hHeld ⊢
  refine pt_ 0 30 1 ?_
  refine pt_ 3 33 9 ?_
  refine tt_ 1 31 11 ?_
  refine tt_ 2 32 15 ?_
  refine oz_ 4 34 8 31 (fun K hK=>?_)
  refine gf_ Tryz.func151 (spec_l12Put.calls k a2_0 a2_1 _ _ l3 t21 _ (cb_ HR3 HB) HC3.out A8.out) ?_
  rintro e w38 ⟨v22,rfl,ho0,hb⟩
  refine ⟨_,rfl,?_⟩
  replace HO6:=rb_ HO6 hb
  replace HO16:=rb_ HO16 hb
  have HO23:=am_ (Kd.R_lower (Kd.R_new' ho0 (lt_ HO11)) (sz_ HB))
  replace HO11:=re_ HO11 ho0 hb
  replace BK1:=kl_ BK1 hb
  replace BK2:=kl_ BK2 hb
  replace BK3:=kl_ BK3 hb
  replace BK13:=kl_ BK13 hb
  replace BK20:=kl_ BK20 hb
  replace HB:=ss_ HB hb
  clear hb ho0
  obtain ⟨Ao40,co40,eo40⟩:=Kd.R_slice HO23.out
  subst eo40
  refine hK.out _ _ ⟨bc0_ BK13.out,bc1_ BK13.out,bc2_ BK13.out,bc3_ BK13.out,bc4_ BK13.out,bc0_ BK2.out,bc1_ BK2.out⟩ (fun hHeld=>?_)
  clear hK K
  refine no_ 34 ?_
  refine oz_ 5 35 8 63 (fun K hK=>?_)
  refine Kd.R_append_rows_step (Kd.int .u8) (w0:=w) w.heap.size (by rfl) (.tmp 31) (.tmp 34) 27 5 (.int .u8 0) 1 rfl Tryz.underlying27 info5 rfl (by decide) (by omega) (.slice Ao23 t9.length co23) t9 t21 _ _ _ (fun k_=>some k_ ≠ (.slice Ao40 t21.length co40:Value).ownBlock) (fun _=>False) rfl rfl ?aO ?aR (fun _ _ h=>h) (fun _ h=>h.elim) ?aF ?aB ?aS ?aL ?_
  (case aR=>repeat (first|exact (Kd.R_reads' HO23.out).2.2|(with_reducible refine Kd.C_alloc ?_ _)|(with_reducible refine Kd.C_drewN ?_ _)|(with_reducible refine Kd.C_drew ?_)))
  (case aB=>exact (bw_ HB))
  (case aF=>exact (fun k_ hk=>Kd.fresh' (lt_ HO23) k_ hk))
  (case aO=>exact (kr_ (Kd.R_mono HO11.out (fun _ hk=>hk.2))))
  (case aS=>exact (sz_ HB))
  (case aL=>have:=LMc9.out;omega)
  intro v25 w39 ho hb hg hat
  rw [← Ny24.out] at ho
  replace BK1:=kg_ BK1 HO11 hg
  replace BK2:=kg_ BK2 HO11 hg
  replace BK3:=kg_ BK3 HO11 hg
  replace HO6:=am_ (Kd.R_over' (kr_ HO6.out) (Kd.R_typed (kr_ HO11.out)) (by decide) hg)
  replace BK13:=kg_ BK13 HO11 hg
  replace HO16:=am_ (Kd.R_over' (kr_ HO16.out) (Kd.R_typed (kr_ HO11.out)) (by decide) hg)
  replace BK20:=kg_ BK20 HO11 hg
  replace HB:=am_ hb
  have HO26:=am_ ho
  clear HO11
  clear ho hb hg hat
  obtain ⟨Ao41,co41,eo41⟩:=Kd.R_slice HO26.out
  subst eo41
  refine hK.out _ _ ⟨bc0_ BK13.out,bc1_ BK13.out,bc2_ BK13.out,bc3_ BK13.out,bc4_ BK13.out,bc0_ BK2.out,bc1_ BK2.out⟩ (fun hHeld=>?_)
  clear hK K
  refine no_ 35 ?_
  refine pt_ 6 36 127 ?_
  refine last_ (i:=7) (N:=none) (lz_ 8 255) rfl rfl (one_of HT_.out (by kernel_rfl)) (by decide) (fun K hK=>?_)
  have hs42:=bc3_ BK13.out
  have hfs42:=blk_frozen BK13.out 3
  have hns42_0:=NB1_13.out
  have hns42_1:=NB2_13.out
  have hns42_2:=NB3_13.out
  have hns42_4:=NB20_13.out
  have hms42_0:=NB13_1.out
  have hms42_1:=NB13_2.out
  have hms42_2:=NB13_3.out
  have hms42_4:=NB13_20.out
  refine skip_ (w1:=?_) (by rfl) rfl ?_ ?_
  rotate_left
  ·go_simp
   rfl
  refine hK.out _ _ ?_
  clear hK K
  refine dn_ ?_
  have hz43:=cz5_ BK13
  have hz44:=cz5_ BK3
  try go_wp2
  refine bodyPost_ret (rct_ gb3 41 #[.slice Ao29 t14.length co29,.int .i64 t17,.string t18,.slice Ao41 y24.length co41,.int .i64 t12] BK3 Tryz.underlying41) rfl ?_
  exact ⟨_,_,e2_,kfm2_ HO16 BK13 BK3,kfm2_ HO26 BK13 BK3,bw_ HB⟩
 ·have c7b0:(t19 == 0)=false:=beq_eq_false_iff_ne.mpr c7
  have c7b1:(t19 != 0)=true:=bne_iff_ne.mpr c7
  replace H:=so6_ H;obtain ⟨rfl,rfl,rfl,rfl,rfl,rfl⟩:=H
  go_enter Tryz.func128,Tryz.ntmps128
  go_wp2_with (first|((with_reducible refine gd_ 4 ?_);refine bx_ 4 41 #[.slice A0_0 l0_0.length c0_0,.int .i64 a0_1,.string a0_2,.slice A0_3 l0_3.length c0_3,.int .i64 a0_4] (hx_ HB ?_);clear HB;intro gb1 w45 BK1 GW1 HB;have GE1:=GW1)|((with_reducible refine gd_ 6 ?_);refine bx_ 6 37 #[.int .i64 a2_0,.string a2_1] ?_;intro gb2 hg w46 hbox hb;have BK2:=am_ hbox;have GW2:=gg_ hg HB;have GE2:=GW2;replace HB:=ss_ HB hb;have NB1_2:=nla_ hg BK1;have NB2_1:=nga_ hg BK1;replace BK1:=kl_ BK1 hb;clear hb hbox hg)|((with_reducible refine gd_ 8 ?_);refine x41_ 8 ?_;intro gb3 hg w47 hbox hb;have BK3:=am_ hbox;have GW3:=gg_ hg HB;have GE3:=GW3;replace HB:=ss_ HB hb;have NB1_3:=nla_ hg BK1;have NB3_1:=nga_ hg BK1;replace BK1:=kl_ BK1 hb;have NB2_3:=nla_ hg BK2;have NB3_2:=nga_ hg BK2;replace BK2:=kl_ BK2 hb;clear hb hbox hg;have hnb48:=NB1_2.out;have hnc48:=NB2_1.out;have hnb49:=NB1_3.out;have hnc49:=NB3_1.out;have hz50:=cz5_ BK1)|((with_reducible refine gq_ 93 14 ?_);refine gc_ 14 Tryz.func93 (spec_l12Copy.calls _ _ l0_0 a0_1 a0_2 _ _ l0_3 a0_4 t4 t7 t8 t9 t12 _ (cb_ HR0_0 HB) HC0_0.out (cb_ HR0_3 HB) HC0_3.out A5.out) ?_;rintro e w51 ⟨v5,v10,rfl,ho0,ho1,hb⟩;refine ⟨_,rfl,?_⟩;have HO6:=rlo_ ho0 HB;have HO11:=rlo_ ho1 HB;replace BK1:=kl_ BK1 hb;replace BK2:=kl_ BK2 hb;replace BK3:=kl_ BK3 hb;replace HB:=ss_ HB hb;clear hb ho0 ho1)|((with_reducible refine gd_ 10 ?_);refine x41_ 10 ?_;intro gb13 hg w52 hbox hb;replace HO6:=rb_ HO6 hb;replace HO11:=rb_ HO11 hb;have BK13:=am_ hbox;have GW13:=gg_ hg HB;have GE13:=GW13;replace HB:=ss_ HB hb;have NB1_13:=nla_ hg BK1;have NB13_1:=nga_ hg BK1;replace BK1:=kl_ BK1 hb;have NB2_13:=nla_ hg BK2;have NB13_2:=nga_ hg BK2;replace BK2:=kl_ BK2 hb;have NB3_13:=nla_ hg BK3;have NB13_3:=nga_ hg BK3;replace BK3:=kl_ BK3 hb;clear hb hbox hg;obtain ⟨Ao53,co53,eo53⟩:=Kd.R_slice HO6.out;subst eo53;have hnb54:=NB13_1.out;have hnc54:=NB1_13.out;have hnb55:=NB13_2.out;have hnc55:=NB2_13.out;have hnb56:=NB13_3.out;have hnc56:=NB3_13.out;have hz57:=cz5_ BK13;obtain ⟨Ao58,co58,eo58⟩:=Kd.R_slice HO11.out;subst eo58;have hz59:=cz5_ BK1;have hnb60:=NB2_3.out;have hnc60:=NB3_2.out;have hz61:=cz2_ BK2)|((with_reducible refine gq_ 150 21 ?_);refine gc_ 21 Tryz.func150 (spec_Extend.calls k _ _ l0_0 a0_1 a0_2 _ _ l1 a2_0 a2_1 _ _ l3 t14 t17 t18 t19 _ (Kd.C_below HR0_0.out (bw_ HB)) HC0_0.out (Kd.C_below HR1.out (bw_ HB)) HC1.out (Kd.C_below HR3.out (bw_ HB)) HC3.out A6.out) ?_;rintro e w62 ⟨v15,rfl,ho0,hb⟩;refine ⟨_,rfl,?_⟩;replace HO11:=rbf_ HO11 BK13 hb;have HO16:=am_ (Kd.R_lower (Kd.R_new' ho0 (lf_ HO6 BK13)) (sz_ HB));replace HO6:=ref_ HO6 BK13 ho0 hb;replace BK1:=kp_ BK1 hb;replace BK2:=kp_ BK2 hb;replace BK3:=kp_ BK3 hb;replace BK13:=kp_ BK13 hb;replace HB:=ss_ HB hb;clear hb ho0)|((with_reducible refine gd_ 11 ?_);refine x39_ 11 ?_;intro gb20 hg w63 hbox hb;replace HO6:=rb_ HO6 hb;replace HO11:=rb_ HO11 hb;replace HO16:=rb_ HO16 hb;have BK20:=am_ hbox;have GW20:=gg_ hg HB;have GE20:=GW20;replace HB:=ss_ HB hb;have NB1_20:=nla_ hg BK1;have NB20_1:=nga_ hg BK1;replace BK1:=kl_ BK1 hb;have NB2_20:=nla_ hg BK2;have NB20_2:=nga_ hg BK2;replace BK2:=kl_ BK2 hb;have NB3_20:=nla_ hg BK3;have NB20_3:=nga_ hg BK3;replace BK3:=kl_ BK3 hb;have NB13_20:=nla_ hg BK13;have NB20_13:=nga_ hg BK13;replace BK13:=kl_ BK13 hb;clear hb hbox hg;obtain ⟨Ao64,co64,eo64⟩:=Kd.R_slice HO16.out;subst eo64;have hnb65:=NB20_1.out;have hnc65:=NB1_20.out;have hnb66:=NB20_2.out;have hnc66:=NB2_20.out;have hnb67:=NB20_3.out;have hnc67:=NB3_20.out;have hnb68:=NB20_13.out;have hnc68:=NB13_20.out;have hz69:=cz3_ BK20;have hz70:=cz5_ BK13;have hz71:=cz5_ BK3))
  refine bodyPost_ret (rct_ gb3 41 #[.slice Ao53 t4.length co53,.int .i64 t7,.string t8,.slice Ao58 t9.length co58,.int .i64 t12] BK3 Tryz.underlying41) rfl ?_
  exact ⟨_,_,e2_,kfm2_ HO6 BK20 BK3,kfm2_ HO11 BK20 BK3,bw_ HB⟩
def spec_l12Draw.l0:Nat->List ByteArray->List (S37)->Int->List Int->Int->Int->List ByteArray->Int->ByteArray->List Int->Int->Option (List ByteArray × Int × ByteArray × List Int × Int × List ByteArray × (List (S37)) × Int × Int)
 | 0,_,_,_,_,_,_,_,_,_,_,_=>none
 | k+1,x5,x6,x8,x1000,x1001,x1002,x25000,x25001,x25002,x25003,x25004=>if x8 > 0 then (if (x25000.length:Int) < (x5.length:Int) then ((spec_l1Below.f x1000 x1001 x1002 (wrap64 ((x5.length:Int) - (x25000.length:Int)))).bind fun bt28=>(if 0≤(wrap64 ((wrap64 ((x25000.length:Int) + 1)) + bt28.1)) then (if (wrap64 ((wrap64 ((x25000.length:Int) + 1)) + bt28.1))≤(x5.length:Int) then ((spec_HeadOf.f k (x5.take ((wrap64 ((wrap64 ((x25000.length:Int) + 1)) + bt28.1)):Int).toNat)).bind fun bt35=>(if 0≤(x25000.length:Int) then (if (x25000.length:Int)≤(wrap64 ((wrap64 ((x25000.length:Int) + 1)) + bt28.1)) then ((spec_l12Commit.f k x25000 x25001 x25002 x25003 x25004 x6 bt35.1 bt35.2 ((x5.take ((wrap64 ((wrap64 ((x25000.length:Int) + 1)) + bt28.1)):Int).toNat).drop ((x25000.length:Int):Int).toNat)).bind fun bt41=>((spec_l1Once.f x1000 bt28.2.1 bt28.2.2 3).bind fun bt51=>(if bt51.1=true then (spec_l12Draw.l0 k x5 x6 (wrap64 (x8 - 1)) x1000 bt51.2.1 bt51.2.2 bt41.1 bt41.2.1 bt41.2.2.1 bt41.2.2.2.1 (bt41.2.2.2.1.length:Int)) else (spec_l12Draw.l0 k x5 x6 (wrap64 (x8 - 1)) x1000 bt51.2.1 bt51.2.2 bt41.1 bt41.2.1 bt41.2.2.1 bt41.2.2.2.1 bt41.2.2.2.2.1)))) else (none)) else (none))) else (none)) else (none))) else ((spec_l1Once.f x1000 x1001 x1002 3).bind fun bt54=>(if bt54.1=true then (spec_l12Draw.l0 k x5 x6 (wrap64 (x8 - 1)) x1000 bt54.2.1 bt54.2.2 x25000 x25001 x25002 x25003 (x25003.length:Int)) else (spec_l12Draw.l0 k x5 x6 (wrap64 (x8 - 1)) x1000 bt54.2.1 bt54.2.2 x25000 x25001 x25002 x25003 x25004)))) else (some (x25000,x25001,x25002,x25003,x25004,x5,x6,x1001,x1002))
def spec_l12Draw.f (k:Nat) (s0_0:List Int) (s0_1:Int) (s0_2:Int):Option (List ByteArray × Int × ByteArray × List Int × Int × List ByteArray × (List (S37)) × Int × Int):=(spec_l6List.f k s0_0 s0_1 s0_2).bind fun bt2=>(if bt2.1.length < 8796093022208 then ((some (bt2.1 ++ [(⟨#[113]⟩:ByteArray)]:List ByteArray)).bind fun y607=>((spec_l10Table.f k s0_0 bt2.2.1 bt2.2.2 y607).bind fun bt10=>((spec_StoreNew.f k).bind fun bt15=>((spec_l1Below.f s0_0 bt10.2.1 bt10.2.2 4).bind fun bt25=>(spec_l12Draw.l0 k y607 bt10.1 bt25.1 s0_0 bt25.2.1 bt25.2.2 bt15.1 bt15.2.1 bt15.2.2.1 bt15.2.2.2.1 bt15.2.2.2.2))))) else (none))
def spec_l12Draw.T10:Bool × List (List Nat × List Nat):=(true,[([],[]),([],[]),([],[]),([],[]),([2,3],[2,3]),([4],[4]),([],[]),([],[]),([],[]),([6,7,8],[6,7,8]),([0,1,5,9,5],[0,1,5,9]),([10],[10]),([11],[11]),([11],[11]),([12,10,0,1,2,3,4,5,6,7,8,9,10,11,12],[12])])
def spec_l12Draw.B10:List Nat:=[0,0,0,0,12,28,0,0,0,448,1023,2047,4095,4095,8191]
theorem spec_l12Draw.tab10:rtab .any (opsOf Tryz.f113 10)=spec_l12Draw.T10:=by kernel_rfl
theorem spec_l12Draw.bits10:waitsOk spec_l12Draw.T10.2 spec_l12Draw.B10=true:=by kernel_rfl
theorem spec_l12Draw.calls (k:Nat) (g:Nat) (s0_0:List Int) (s0_1:Int) (s0_2:Int) (r1:List ByteArray) (r2:Int) (r3:ByteArray) (r4:List Int) (r5:Int) (r6:List ByteArray) (r7:List (S37)) (r8:Int) (r9:Int) (w0 w:World) (hI:IsS105 w0 w g s0_0 s0_1 s0_2) (hB:Below w0.heap.size w0 w) (h:spec_l12Draw.f k s0_0 s0_1 s0_2=some (r1,r2,r3,r4,r5,r6,r7,r8,r9)) :
  Calls Tryz.prog 113 #[.pointer (some ⟨g,0,none⟩)] w fun e w'=>∃ v0_ v3_ v5_ v6_:Value,e = .returned (.tuple #[.agg #[v0_,.int .i64 r2,.string r3,v3_,.int .i64 r5],v5_,v6_])∧Kd.R Kd.string 9 w' w.heap.size (fun k_=>some k_ ≠ (v5_:Value).ownBlock) v0_ r1∧Kd.R (Kd.int .u8) 5 w' w.heap.size (fun _=>True) v3_ r4∧Kd.R Kd.string 9 w' w.heap.size (fun k_=>some k_ ≠ (v0_:Value).ownBlock) v5_ r6∧Kd.R k37 37 w' w.heap.size (fun _=>True) v6_ r7∧IsS105 w0 w' g s0_0 r8 r9∧Below w0.heap.size w0 w'∧KeepBut w w' g none:=by
 have hu41:=Tryz.underlying41
 have HI0:=am_ hI
 have HK:=am_ (KeepBut.refl w g none)
 have HL:=am_ hB.size
 clear hI
 have HW0:=am_ hB.size
 have HB:=am_ hB
 clear hB
 have H:((spec_l6List.f k s0_0 s0_1 s0_2).bind fun bt2=>(if bt2.1.length < 8796093022208 then ((some (bt2.1 ++ [(⟨#[113]⟩:ByteArray)]:List ByteArray)).bind fun y607=>((spec_l10Table.f k s0_0 bt2.2.1 bt2.2.2 y607).bind fun bt10=>((spec_StoreNew.f k).bind fun bt15=>((spec_l1Below.f s0_0 bt10.2.1 bt10.2.2 4).bind fun bt25=>(spec_l12Draw.l0 k y607 bt10.1 bt25.1 s0_0 bt25.2.1 bt25.2.2 bt15.1 bt15.2.1 bt15.2.2.1 bt15.2.2.2.1 bt15.2.2.2.2))))) else (none)))=some (r1,r2,r3,r4,r5,r6,r7,r8,r9):=h
 clear h
 replace H:=bi_ H;obtain ⟨⟨t602,t5,t6⟩,A2,H⟩:=H
 dsimp only at H
 replace H:=ip_ H;obtain ⟨c3,H⟩:=H
 have LMc3:=am_ c3
 clear c3
 obtain ⟨y607,Ny7,H⟩:=sb_ (t602 ++ [(⟨#[113]⟩:ByteArray)]) H
 replace H:=bi_ H;obtain ⟨⟨t10,t13,t14⟩,A4,H⟩:=H
 dsimp only at H
 replace H:=bi_ H;obtain ⟨⟨t15,t18,t19,t20,t23⟩,A5,H⟩:=H
 dsimp only at H
 replace H:=bi_ H;obtain ⟨⟨t25,t26,t27⟩,A6,H⟩:=H
 dsimp only at H
 have H':=am_ H
 clear H
 go_enter Tryz.func113,Tryz.ntmps113
 go_wp2_with (first|((with_reducible refine gd_ 2 ?_);refine x41_ 2 ?_;intro gb1 hg w7 hbox hb;replace HB:=am_ (below_step (bs1_ HB (IsS105.ge HI0.out)) hb);have BK1:=am_ hbox;have GW1:=gw_ hg HK;have GE1:=am_ (Nat.le_trans HW0.out (gw_ hg HK).out);replace HK:=am_ (KeepBut.trans (kn_ HK) (KeepBut.of_below hb g none) (.inl rfl));have NB0_1:=am_ ((by rw [hg];exact Nat.ne_of_lt (IsS105.lt (show IsS105 w0 _ g s0_0 s0_1 s0_2 from in105_ HI0)):g ≠ gb1));have NB1_0:=am_ ((by rw [hg];exact Nat.ne_of_gt (IsS105.lt (show IsS105 w0 _ g s0_0 s0_1 s0_2 from in105_ HI0)):gb1 ≠ g));replace HI0:=am_ (IsS105.below (in105_ HI0) hb);clear hb hbox hg)|((with_reducible refine gq_ 118 12 ?_);refine gc_ 12 Tryz.func118 (spec_l6List.calls k g s0_0 s0_1 s0_2 t602 t5 t6 w0 _ (in105_ HI0) (bi105_ HB) A2.out) ?_;rintro e w8 ⟨v3,rfl,ho0,hi,hb,hk⟩;refine ⟨_,rfl,?_⟩;replace BK1:=kbk_ hk (kb_ BK1.out) NB1_0;have HO4:=am_ (Kd.R_lower ho0 (keep_size (w:=w) (g:=g) (row:=none) (kn_ HK)));replace HK:=ktr_ HK hk;replace HB:=am_ hb;replace HI0:=am_ hi;clear hb hk hi ho0)|((with_reducible refine gate_builtin (b:=.append) (xs:=#[.tmp 12,.tmp 13]) rfl ?_);at_builtin;refine Kd.R_append Kd.string w.heap.size rfl (.tmp 12) (.tmp 13) 22 9 (.string ⟨#[]⟩) 16 rfl Tryz.underlying22 info9 rfl (by decide) (by omega) v3 t602 (⟨#[113]⟩:ByteArray) [.string (⟨#[113]⟩:ByteArray)] (fun _=>True) (fun _=>False) rfl rfl ?aP (fun _ hk=>hk.elim) ?aF ?aO (Below.refl _ _) ?aS ?aL ?_;(case aP=>exact rfl);(case aF=>exact (fun _ _=>trivial));(case aO=>exact (kr_ HO4.out));(case aS=>exact (keep_size (w:=w) (g:=g) (row:=none) (kn_ HK)));(case aL=>have:=LMc3.out;omega);intro v608 w9 ho hb hg hat;rw [← Ny7.out] at ho;replace BK1:=kg_ BK1 HO4 hg;replace HB:=am_ (below_weaken (bs2_ HB (IsS105.ge HI0.out) GE1.out) HL.out hb);replace HI0:=am_ (IsS105.grown (in105_ HI0) hg (IsS105.own_ne HI0.out HO4.out (by decide)));replace HK:=am_ (KeepBut.trans (kn_ HK) (KeepBut.of_grown hg g) (Kd.R_base2 HO4.out));have HO9:=am_ ho;clear HO4;clear ho hb hg hat;obtain ⟨Ao10,co10,eo10⟩:=Kd.R_slice HO9.out;subst eo10)|((with_reducible refine gq_ 117 17 ?_);refine gc_ 17 Tryz.func117 (spec_l10Table.calls k g s0_0 t5 t6 _ _ y607 t10 t13 t14 w0 _ (in105_ HI0) (bi105_ HB) (ch_ HO9) (cl_ HO9) (far_slice (IsS105.own_ne HI0.out HO9.out (by decide))) A4.out) ?_;rintro e w11 ⟨v11,rfl,ho0,hi,hb,hk⟩;refine ⟨_,rfl,?_⟩;replace BK1:=kbk_ hk (kb_ BK1.out) NB1_0;have i_:=iw105_ hk (show IsS105 w0 _ g s0_0 t5 t6 from in105_ HI0);replace HO9:=rat105_ i_ (kr_ HO9.out) hk;clear i_;have HO12:=am_ (Kd.R_lower ho0 (keep_size (w:=w) (g:=g) (row:=none) (kn_ HK)));replace HK:=ktr_ HK hk;replace HB:=am_ hb;replace HI0:=am_ hi;clear hb hk hi ho0)|((with_reducible refine gq_ 126 18 ?_);refine gc_ 18 Tryz.func126 (spec_StoreNew.calls k  t15 t18 t19 t20 t23 _ A5.out) ?_;rintro e w12 ⟨v16,v21,rfl,ho0,ho1,hb⟩;refine ⟨_,rfl,?_⟩;replace HO12:=rb_ HO12 hb;have HO17:=am_ (Kd.R_lower (Kd.R_new' ho0 (lt_ HO9)) (keep_size (w:=w) (g:=g) (row:=none) (kn_ HK)));replace HO9:=re_ HO9 ho0 hb;have HO22:=am_ (Kd.R_lower ho1 (keep_size (w:=w) (g:=g) (row:=none) (kn_ HK)));replace BK1:=kl_ BK1 hb;replace HK:=am_ (KeepBut.trans (kn_ HK) (KeepBut.of_below hb g none) (.inl rfl));replace HB:=am_ (below_step (bs2_ HB (IsS105.ge HI0.out) GE1.out) hb);replace HI0:=am_ (IsS105.below (in105_ HI0) hb);clear hb ho0 ho1)|((with_reducible refine gd_ 7 ?_);refine x41_ 7 ?_;intro gb24 hg w13 hbox hb;replace HO9:=rb_ HO9 hb;replace HO12:=rb_ HO12 hb;replace HO17:=rb_ HO17 hb;replace HO22:=rb_ HO22 hb;replace HB:=am_ (below_step (bs2_ HB (IsS105.ge HI0.out) GE1.out) hb);have BK24:=am_ hbox;have GW24:=gw_ hg HK;have GE24:=am_ (Nat.le_trans HW0.out (gw_ hg HK).out);replace HK:=am_ (KeepBut.trans (kn_ HK) (KeepBut.of_below hb g none) (.inl rfl));have NB1_24:=nla_ hg BK1;have NB24_1:=nga_ hg BK1;replace BK1:=kl_ BK1 hb;have NB0_24:=am_ ((by rw [hg];exact Nat.ne_of_lt (IsS105.lt (show IsS105 w0 _ g s0_0 t13 t14 from in105_ HI0)):g ≠ gb24));have NB24_0:=am_ ((by rw [hg];exact Nat.ne_of_gt (IsS105.lt (show IsS105 w0 _ g s0_0 t13 t14 from in105_ HI0)):gb24 ≠ g));replace HI0:=am_ (IsS105.below (in105_ HI0) hb);clear hb hbox hg;obtain ⟨Ao14,co14,eo14⟩:=Kd.R_slice HO17.out;subst eo14;have hnb15:=NB24_1.out;have hnc15:=NB1_24.out;have hnb16:=NB24_0.out;have hnc16:=NB0_24.out;have hz17:=cz5_ BK24;obtain ⟨Ao18,co18,eo18⟩:=Kd.R_slice HO22.out;subst eo18)|((with_reducible refine gq_ 87 20 ?_);refine gc_ 20 Tryz.func87 (spec_l1Below.calls g s0_0 t13 t14 4 t25 t26 t27 w0 _ (in105_ HI0) (bi105_ HB) A6.out) ?_;rintro e w19 ⟨rfl,hi,hb,hk⟩;refine ⟨_,rfl,?_⟩;replace BK1:=kbk_ hk (kq_ (o':=.cells #[.slice none 0 0,.int .i64 0,.string (⟨#[]⟩:ByteArray),.slice none 0 0,.int .i64 0] 41 (0,0)) BK1) NB1_0;have i_:=iw105_ hk (show IsS105 w0 _ g s0_0 t13 t14 from in105_ HI0);replace HO9:=rat105_ i_ (kf_ HO9 BK24) hk;replace HO12:=rat105_ i_ (kf_ HO12 BK24) hk;replace HO17:=rat105_ i_ (kf_ HO17 BK24) hk;replace HO22:=rat105_ i_ (kf_ HO22 BK24) hk;clear i_;replace BK24:=kbk_ hk (kq_ (o':=.cells #[.slice Ao14 t15.length co14,.int .i64 t18,.string t19,.slice Ao18 t20.length co18,.int .i64 t23] 41 (0,0)) BK24) NB24_0;replace HK:=ktr_ HK hk;replace HB:=am_ hb;replace HI0:=am_ hi;clear hb hk hi))
 go_loopg [8] k (fun kq v8 w'=>∃ (x8_1:Int) (x1001_1:Int) (x1002_1:Int) (x25000_1:List ByteArray) (x25001_1:Int) (x25002_1:ByteArray) (x25003_1:List Int) (x25004_1:Int) (u25000:Value) (u25003:Value),v8 = .int .i64 x8_1∧Aside0 (spec_l12Draw.l0 kq y607 t10 x8_1 s0_0 x1001_1 x1002_1 x25000_1 x25001_1 x25002_1 x25003_1 x25004_1=some (r1,r2,r3,r4,r5,r6,r7,r8,r9))∧Aside0 (kq≤k)∧Aside0 (Kd.R Kd.string 9 w' w.heap.size (fun k_=>some k_ ≠ (u25000:Value).ownBlock) (.slice Ao10 y607.length co10) y607)∧Aside0 (Kd.R k37 37 w' w.heap.size (fun _=>True) v11 t10)∧Aside0 (Kd.R Kd.string 9 w' w.heap.size (fun k_=>some k_ ≠ ((.slice Ao10 y607.length co10):Value).ownBlock) u25000 x25000_1)∧Aside0 (Kd.R (Kd.int .u8) 5 w' w.heap.size (fun _=>True) u25003 x25003_1)∧Aside0 (w'.heap[gb1]?=some (.cells #[(.slice none 0 0),.int .i64 0,.string (⟨#[]⟩:ByteArray),(.slice none 0 0),.int .i64 0] 41 (0,0)))∧Aside0 (w'.heap[gb24]?=some (.cells #[u25000,.int .i64 x25001_1,.string x25002_1,u25003,.int .i64 x25004_1] 41 (0,0)))∧Aside0 (IsS105 w0 w' g s0_0 x1001_1 x1002_1)∧Aside0 (KeepBut w w' g none)∧Aside0 (Below w0.heap.size w0 w'))
 case atStart => exact ⟨(t25),(t26),(t27),(t15),(t18),(t19),(t20),(t23),(.slice Ao14 t15.length co14),(.slice Ao18 t20.length co18),e1_,H',⟨Nat.le_refl _⟩,⟨kr_ (Kd.R_mono HO9.out (fun _ hk=>hk.2))⟩,⟨kr_ HO12.out⟩,⟨kr_ (Kd.R_mono HO17.out (fun _ hk=>hk.2))⟩,⟨kr_ HO22.out⟩,⟨kb_ BK1.out⟩,⟨kb_ BK24.out⟩,⟨in105_ HI0⟩,⟨kn_ HK⟩,⟨bi105_ HB⟩⟩
 case round =>
  clear H'
  try clear c3
  try clear hz17
  obtain ⟨x8_1,x1001_1,x1002_1,x25000_1,x25001_1,x25002_1,x25003_1,x25004_1,u25000,u25003,rfl,HA,HK1,HO_5,HO_6,HO_25000,HO_25003,BK1,BK24,HI0,HK,HB⟩:=hrel
  cases gk with
  | zero=>exact absurd HA.out (by simp [spec_l12Draw.l0])
  | succ k1 =>
   have H:=HA.out
   clear HA
   simp only [spec_l12Draw.l0] at H
   replace H:=it_ H;obtain ⟨c20,H⟩|⟨c20,H⟩:=H
   ·have c20b0:decide (0 < x8_1)=true:=decide_eq_true c20
    clear c20
    replace H:=it_ H;obtain ⟨c21,H⟩|⟨c21,H⟩:=H
    ·have c21b0:=decide_eq_true c21
     have c21b1:decide (x25000_1.length < y607.length)=true:=decide_eq_true (Int.ofNat_lt.mp c21)
     clear c21
     replace H:=bi_ H;obtain ⟨⟨t28,t29,t30⟩,A22,H⟩:=H
     dsimp only at H
     generalize hji23:(wrap64 ((wrap64 ((x25000_1.length:Int) + 1)) + t28))=ji23 at H
     (try rw [hji23] at A22)
     have hji23w:(IntKind.i64.wrap ((wrap64 ((x25000_1.length:Int) + 1)) + t28))=ji23:=(i64_w _).trans hji23
     replace H:=ip_ H;obtain ⟨c24,H⟩:=H
     have c24b0:=eq_true c24
     have c24b1:=decide_eq_true c24
     clear c24
     replace H:=ip_ H;obtain ⟨c25,H⟩:=H
     have c25b0:=eq_true c25
     have c25b1:=decide_eq_true c25
     clear c25
     obtain ⟨y31,hy31⟩:∃ y_:List ByteArray,y_=(y607.take ((ji23):Int).toNat):=⟨_,rfl⟩
     replace H:((spec_HeadOf.f k1 y31).bind fun bt35=>(if 0≤(x25000_1.length:Int) then (if (x25000_1.length:Int)≤(ji23) then ((spec_l12Commit.f k1 x25000_1 x25001_1 x25002_1 x25003_1 x25004_1 t10 bt35.1 bt35.2 ((y607.take ((ji23):Int).toNat).drop ((x25000_1.length:Int):Int).toNat)).bind fun bt41=>((spec_l1Once.f s0_0 t29 t30 3).bind fun bt51=>(if bt51.1=true then (spec_l12Draw.l0 k1 y607 t10 (wrap64 (x8_1 - 1)) s0_0 bt51.2.1 bt51.2.2 bt41.1 bt41.2.1 bt41.2.2.1 bt41.2.2.2.1 (bt41.2.2.2.1.length:Int)) else (spec_l12Draw.l0 k1 y607 t10 (wrap64 (x8_1 - 1)) s0_0 bt51.2.1 bt51.2.2 bt41.1 bt41.2.1 bt41.2.2.1 bt41.2.2.2.1 bt41.2.2.2.2.1)))) else (none)) else (none)))=some (r1,r2,r3,r4,r5,r6,r7,r8,r9):=yh_ hy31 H
     have Ny31:=am_ hy31
     clear hy31
     replace H:=bi_ H;obtain ⟨⟨t35,t36⟩,A26,H⟩:=H
     dsimp only at H
     replace H:=ip_ H;obtain ⟨c27,H⟩:=H
     have c27b0:=eq_true c27
     have c27b1:=decide_eq_true c27
     clear c27
     replace H:=ip_ H;obtain ⟨c28,H⟩:=H
     have c28b0:=eq_true c28
     have c28b1:=decide_eq_true c28
     clear c28
     have c29b0:=eq_true (od_:(ji23)≤(y607.length:Int))
     obtain ⟨y37,hy37⟩:∃ y_:List ByteArray,y_=((y607.take ((ji23):Int).toNat).drop ((x25000_1.length:Int):Int).toNat):=⟨_,rfl⟩
     replace H:((spec_l12Commit.f k1 x25000_1 x25001_1 x25002_1 x25003_1 x25004_1 t10 t35 t36 y37).bind fun bt41=>((spec_l1Once.f s0_0 t29 t30 3).bind fun bt51=>(if bt51.1=true then (spec_l12Draw.l0 k1 y607 t10 (wrap64 (x8_1 - 1)) s0_0 bt51.2.1 bt51.2.2 bt41.1 bt41.2.1 bt41.2.2.1 bt41.2.2.2.1 (bt41.2.2.2.1.length:Int)) else (spec_l12Draw.l0 k1 y607 t10 (wrap64 (x8_1 - 1)) s0_0 bt51.2.1 bt51.2.2 bt41.1 bt41.2.1 bt41.2.2.1 bt41.2.2.2.1 bt41.2.2.2.2.1))))=some (r1,r2,r3,r4,r5,r6,r7,r8,r9):=yh_ hy37 H
     have Ny37:=am_ hy37
     clear hy37
     replace H:=bi_ H;obtain ⟨⟨t41,t44,t45,t46,t49,t50⟩,A30,H⟩:=H
     dsimp only at H
     replace H:=bi_ H;obtain ⟨⟨t51,t52,t53⟩,A31,H⟩:=H
     dsimp only at H
     have HS_:=am_ H
     clear H
     have hnb33:=NB24_1.out
     have hnc33:=NB1_24.out
     have hnb34:=NB24_0.out
     have hnc34:=NB0_24.out
     have hz35:=cz5_ BK24
     obtain ⟨Ao36,co36,eo36⟩:=Kd.R_slice HO_25000.out
     subst eo36
     try go_wp2_with (first|((with_reducible refine gq_ 87 40 ?_);refine gc_ 40 Tryz.func87 (spec_l1Below.calls g s0_0 x1001_1 x1002_1 (wrap64 ((y607.length:Int) - (x25000_1.length:Int))) t28 t29 t30 w0 _ (in105_ HI0) (bi105_ HB) A22.out) ?_;rintro e w37 ⟨rfl,hi,hb,hk⟩;refine ⟨_,rfl,?_⟩;have i_:=iw105_ hk (show IsS105 w0 _ g s0_0 x1001_1 x1002_1 from in105_ HI0);replace HO_5:=rat105_ i_ (kr_ HO_5.out) hk;replace HO_6:=rat105_ i_ (kr_ HO_6.out) hk;replace HO_25000:=rat105_ i_ (kr_ HO_25000.out) hk;replace HO_25003:=rat105_ i_ (kr_ HO_25003.out) hk;clear i_;replace BK1:=kbk_ hk (kb_ BK1.out) NB1_0;replace BK24:=kbk_ hk (kb_ BK24.out) NB24_0;replace HK:=ktr_ HK hk;replace HB:=am_ hb;replace HI0:=am_ hi;clear hb hk hi))
     replace HO_5:=am_ (Kd.R_drew HO_5.out)
     replace HO_6:=am_ (Kd.R_drew HO_6.out)
     replace HO_25000:=am_ (Kd.R_drew HO_25000.out)
     replace HO_25003:=am_ (Kd.R_drew HO_25003.out)
     replace BK1:=bd_ BK1
     replace BK24:=bd_ BK24
     replace HI0:=am_ (IsS105.drew HI0.out)
     replace HK:=am_ (keep_drew HK.out)
     replace HB:=hd_ HB
     have q39:((ji23):Int)≤((y607.length:Int):Int):=od_
     obtain ⟨i039,hi039,_,hsz39,_⟩:=info_parts info9
     have hroom39:y607.length≤co10:=(cl_ HO_5)
     have hC39:Kd.C Kd.string _ Ao10 y607.length y607:=(Kd.R_reads' HO_5.out).2.2
     have hcut39:=cut_to (P:=Tryz.prog) 22 9 .i64 Tryz.underlying22 hi039 Ao10 y607.length co10 (ji23) (od_) q39 hroom39
     have hr39:=Kd.C_take (m:=((ji23):Int).toNat) hC39 (by omega)
     have hy39:y31.length=((ji23):Int).toNat:=(by rw [Ny31.out,List.length_take];omega)
     rw [← Ny31.out] at hr39
     rw [← hy39] at hcut39
     have HR34:=am_ hr39
     have HC34:=am_ (show y31.length≤co10 from by omega)
     clear hr39 hC39 hroom39 hi039 hsz39
     have KY39:=am_ hy39
     clear hy39
     have KL39:=am_ (show ((ji23):Int).toNat≤y607.length from by omega)
     replace q39:=eq_true q39
     have q40:((ji23):Int)≤((y607.length:Int):Int):=od_
     obtain ⟨i040,hi040,_,hsz40,_⟩:=info_parts info9
     have hroom40:y607.length≤co10:=(cl_ HO_5)
     have hC40:Kd.C Kd.string _ Ao10 y607.length y607:=(Kd.R_reads' HO_5.out).2.2
     have ql40:((x25000_1.length:Int):Int)≤((ji23):Int):=od_
     have q040:(0:Int)≤((x25000_1.length:Int):Int):=od_
     have hcut40:=cut_mid (P:=Tryz.prog) 22 9 .i64 .i64 Tryz.underlying22 hi040 1 hsz40 Ao10 y607.length co10 (x25000_1.length:Int) (ji23) q040 ql40 q40 hroom40
     have hr40:=Kd.C_mid (lo:=((x25000_1.length:Int):Int).toNat) (hi:=((ji23):Int).toNat) (c:=co10) hC40 (by omega) (by omega) hroom40
     obtain ⟨A40,hA40⟩:∃ A1,A1=(if co10=((x25000_1.length:Int):Int).toNat then Ao10 else (Ao10:Option Addr).map (·.add (((x25000_1.length:Int):Int).toNat * 1))):=⟨_,rfl⟩
     obtain ⟨c40,hc40⟩:∃ c1,c1=co10 - ((x25000_1.length:Int):Int).toNat:=⟨_,rfl⟩
     have hy40:y37.length=((ji23):Int).toNat - ((x25000_1.length:Int):Int).toNat:=(by rw [Ny37.out,List.length_drop,List.length_take] <;> omega)
     rw [show ((y607).take ((ji23):Int).toNat).drop ((x25000_1.length:Int):Int).toNat=y37 from Ny37.out.symm] at hr40
     replace hr40:Kd.C Kd.string _ A40 y37.length y37:=(by rw [hA40];exact hr40)
     rw [← hy40,← hA40,← hc40] at hcut40
     have HR40:=am_ hr40
     have HC40:=am_ (show y37.length≤c40 from by rw [hy40,hc40];exact Nat.sub_le_sub_right (Nat.le_trans (by omega) hroom40) _)
     clear hr40 hC40 hroom40 hi040 hsz40 hc40
     have KY40:=am_ hy40
     have KA40:=am_ hA40
     clear hy40 hA40
     have KL40:=am_ (show ((ji23):Int).toNat≤y607.length from by omega)
     have KM40:=am_ (show ((x25000_1.length:Int):Int).toNat≤((ji23):Int).toNat from by omega)
     replace q40:=eq_true q40
     refine sw_ 15 (fun w'=>w'.cell? ⟨gb24,0,none⟩=some (.slice Ao36 x25000_1.length co36)∧w'.cell? ⟨gb24,1,none⟩=some (.int .i64 x25001_1)∧w'.cell? ⟨gb24,2,none⟩=some (.string x25002_1)∧w'.cell? ⟨gb24,3,none⟩=some (u25003)∧w'.cell? ⟨gb24,4,none⟩=some (.int .i64 x25004_1)) [14] spec_l12Draw.tab10 spec_l12Draw.bits10 ⟨bc0_ BK24.out,bc1_ BK24.out,bc2_ BK24.out,bc3_ BK24.out,bc4_ BK24.out⟩ (fun hHeld HT_ HW_=>?_)
     generalize w37.drew=w38 at HO_5 HO_6 HO_25000 HO_25003 BK1 BK24 HI0 HK HB HR34 HR40 hHeld ⊢
     refine pt_ 1 44 2 ?_
     refine pt_ 2 45 6 ?_
     refine pt_ 3 46 14 ?_
     refine pt_ 4 47 30 ?_
     refine pt_ 6 49 94 ?_
     refine pt_ 7 50 222 ?_
     refine pt_ 8 51 478 ?_
     refine pt_ 9 52 990 ?_
     refine tt_ 0 43 991 ?_
     refine oz_ 5 48 15 1023 (fun K hK=>?_)
     refine ge_ Tryz.func110 #[.slice Ao10 y31.length co10] ?_
     with_reducible refine (spec_HeadOf.calls k1 _ _ y31 t35 t36 _ ?side1 ?side2 A26.out).mono ?_
     (case side1=>exact cr_ (by repeat (first|(with_reducible exact HR34.out)|(with_reducible refine Kd.C_alloc ?_ _)|(with_reducible refine Kd.C_drewN ?_ _)|(with_reducible refine Kd.C_drew ?_)|exact HR34.out)))
     (case side2=>exact HC34.out)
     rintro e w41 ⟨rfl,hb⟩
     refine ⟨_,rfl,?_⟩
     replace HO_5:=rb_ HO_5 hb
     replace HO_6:=rb_ HO_6 hb
     replace HO_25000:=rb_ HO_25000 hb
     replace HO_25003:=rb_ HO_25003 hb
     replace BK1:=kl_ BK1 hb
     replace BK24:=kl_ BK24 hb
     replace HR40:=am_ (Kd.C_below (by repeat (first|(with_reducible exact HR40.out)|(with_reducible refine Kd.C_alloc ?_ _)|(with_reducible refine Kd.C_drewN ?_ _)|(with_reducible refine Kd.C_drew ?_)|exact HR40.out)) hb)
     replace HK:=am_ (KeepBut.trans (kn_ HK) (KeepBut.of_below hb g none) (.inl rfl))
     replace HB:=am_ (below_step (bs3_ HB (IsS105.ge HI0.out) GE1.out GE24.out) hb)
     replace HI0:=am_ (IsS105.below (in105_ HI0) hb)
     clear hb
     obtain ⟨Ao42,co42,eo42⟩:=Kd.R_slice HO_25003.out
     subst eo42
     obtain ⟨Ao43,co43,eo43⟩:=Kd.R_slice HO_6.out
     subst eo43
     refine hK.out _ _ ⟨bc0_ BK24.out,bc1_ BK24.out,bc2_ BK24.out,bc3_ BK24.out,bc4_ BK24.out⟩ (fun hHeld=>?_)
     clear hK K
     refine no_ 48 ?_
     refine oz_ 10 53 15 2047 (fun K hK=>?_)
     refine ge_ Tryz.func128 #[.agg #[.slice Ao36 x25000_1.length co36,.int .i64 x25001_1,.string x25002_1,.slice Ao42 x25003_1.length co42,.int .i64 x25004_1],.slice Ao43 t10.length co43,.agg #[.int .i64 t35,.string t36],.slice A40 y37.length c40] ?_
     with_reducible refine (spec_l12Commit.calls k1 _ _ x25000_1 x25001_1 x25002_1 _ _ x25003_1 x25004_1 _ _ t10 t35 t36 _ _ y37 t41 t44 t45 t46 t49 t50 _ ?side1 ?side2 ?side3 ?side4 ?side5 ?side6 ?side7 ?side8 A30.out).mono ?_
     (case side1=>exact ch_ HO_25000)
     (case side2=>exact (cl_ HO_25000))
     (case side3=>exact ch_ HO_25003)
     (case side4=>exact (cl_ HO_25003))
     (case side5=>exact ch_ HO_6)
     (case side6=>exact (cl_ HO_6))
     (case side7=>exact cr_ (by repeat (first|(with_reducible exact HR40.out)|(with_reducible refine Kd.C_alloc ?_ _)|(with_reducible refine Kd.C_drewN ?_ _)|(with_reducible refine Kd.C_drew ?_)|exact HR40.out)))
     (case side8=>exact HC40.out)
     rintro e w44 ⟨v42,v47,rfl,ho0,ho1,hb⟩
     refine ⟨_,rfl,?_⟩
     replace HO_6:=rb_ HO_6 hb
     have HO43:=am_ (Kd.R_lower (Kd.R_new' (Kd.R_new' ho0 (lt_ HO_5)) (lt_ HO_25000)) (keep_size (w:=w) (g:=g) (row:=none) (kn_ HK)))
     replace HO_5:=re_ HO_5 ho0 hb
     replace HO_25000:=re_ HO_25000 ho0 hb
     have HO48:=am_ (Kd.R_lower (Kd.R_new' ho1 (lt_ HO_25003)) (keep_size (w:=w) (g:=g) (row:=none) (kn_ HK)))
     replace HO_25003:=re_ HO_25003 ho1 hb
     replace BK1:=kl_ BK1 hb
     replace BK24:=kl_ BK24 hb
     replace HK:=am_ (KeepBut.trans (kn_ HK) (KeepBut.of_below hb g none) (.inl rfl))
     replace HB:=am_ (below_step (bs3_ HB (IsS105.ge HI0.out) GE1.out GE24.out) hb)
     replace HI0:=am_ (IsS105.below (in105_ HI0) hb)
     clear hb ho0 ho1
     obtain ⟨Ao45,co45,eo45⟩:=Kd.R_slice HO43.out
     subst eo45
     obtain ⟨Ao49,co49,eo49⟩:=Kd.R_slice HO48.out
     subst eo49
     refine hK.out _ _ ⟨bc0_ BK24.out,bc1_ BK24.out,bc2_ BK24.out,bc3_ BK24.out,bc4_ BK24.out⟩ (fun hHeld=>?_)
     clear hK K
     refine no_ 53 ?_
     refine pt_ 11 42 4095 ?_
     refine pt_ 12 54 8191 ?_
     refine pt_ 13 55 16383 ?_
     refine last_ (i:=14) (N:=none) (lz_ 15 32767) rfl rfl (one_of HT_.out (by kernel_rfl)) (by decide) (fun K hK=>?_)
     have hs46:=bc0_ BK24.out
     have hfs46:=blk_frozen BK24.out 0
     have hns46_0:=NB1_24.out
     have hms46_0:=NB24_1.out
     have hs47:=bc1_ BK24.out
     have hfs47:=blk_frozen BK24.out 1
     have hns47_0:=NB1_24.out
     have hms47_0:=NB24_1.out
     have hs48:=bc2_ BK24.out
     have hfs48:=blk_frozen BK24.out 2
     have hns48_0:=NB1_24.out
     have hms48_0:=NB24_1.out
     have hs50:=bc3_ BK24.out
     have hfs50:=blk_frozen BK24.out 3
     have hns50_0:=NB1_24.out
     have hms50_0:=NB24_1.out
     have hs51:=bc4_ BK24.out
     have hfs51:=blk_frozen BK24.out 4
     have hns51_0:=NB1_24.out
     have hms51_0:=NB24_1.out
     refine skip_ (w1:=?_) (by rfl) rfl ?_ ?_
     rotate_left
     ·go_simp
      rfl
     refine hK.out _ _ ?_
     clear hK K
     refine dn_ ?_
     have H:=HS_.out
     clear HS_
     replace H:=itb_ H;obtain ⟨rfl,H⟩|⟨rfl,H⟩:=H
     ·have H':=am_ H
      clear H
      try go_wp2_with (first|((with_reducible refine gq_ 114 57 ?_);refine gc_ 57 Tryz.func114 (spec_l1Once.calls g s0_0 t29 t30 3 true t52 t53 w0 _ (in105_ HI0) (bi105_ HB) A31.out) ?_;rintro e w52 ⟨rfl,hi,hb,hk⟩;refine ⟨_,rfl,?_⟩;have i_:=iw105_ hk (show IsS105 w0 _ g s0_0 t29 t30 from in105_ HI0);replace HO_5:=rat105_ i_ (kf_ HO_5 BK24) hk;replace HO_6:=rat105_ i_ (kf_ HO_6 BK24) hk;replace HO_25000:=rat105_ i_ (kf_ HO_25000 BK24) hk;replace HO_25003:=rat105_ i_ (kf_ HO_25003 BK24) hk;replace BK1:=kbk_ hk (kq_ (o':=.cells #[.slice none 0 0,.int .i64 0,.string (⟨#[]⟩:ByteArray),.slice none 0 0,.int .i64 0] 41 (0,0)) BK1) NB1_0;replace HO43:=rat105_ i_ (kf_ HO43 BK24) hk;replace HO48:=rat105_ i_ (kf_ HO48 BK24) hk;clear i_;replace BK24:=kbk_ hk (kq_ (o':=.cells #[.slice Ao45 t41.length co45,.int .i64 t44,.string t45,.slice Ao49 t46.length co49,.int .i64 t49] 41 (0,0)) BK24) NB24_0;replace HK:=ktr_ HK hk;replace HB:=am_ hb;replace HI0:=am_ hi;clear hb hk hi;have hz53:=cz5_ BK24))
      go_roundg k1
      case measure => have:=HK1.out;omega
      case rel => exact ⟨(wrap64 (x8_1 - 1)),(t52),(t53),(t41),(t44),(t45),(t46),((t46.length:Int)),(.slice Ao45 t41.length co45),(.slice Ao49 t46.length co49),e1_,H',⟨by have:=HK1.out;omega⟩,⟨kr_ (Kd.R_mono (Kd.R_far (p:=⟨gb24,4,none⟩) (Kd.R_types HO_5.out BK24.out (by decide)) (fun _ hk=>hk.2) (.int .i64 (t46.length:Int))) (fun _ hk=>hk.1.2))⟩,⟨kfm_ HO_6 BK24⟩,⟨kr_ (Kd.R_mono (Kd.R_far (p:=⟨gb24,4,none⟩) (Kd.R_types HO43.out BK24.out (by decide)) (fun _ hk=>hk.2) (.int .i64 (t46.length:Int))) (fun _ hk=>hk.1.1.2))⟩,⟨kfm_ HO48 BK24⟩,⟨kq_ BK1⟩,⟨kq_ BK24⟩,⟨in105_ HI0⟩,⟨kn_ HK⟩,⟨bi105_ HB⟩⟩
     ·have H':=am_ H
      clear H
      try go_wp2_with (first|((with_reducible refine gq_ 114 57 ?_);refine gc_ 57 Tryz.func114 (spec_l1Once.calls g s0_0 t29 t30 3 false t52 t53 w0 _ (in105_ HI0) (bi105_ HB) A31.out) ?_;rintro e w73 ⟨rfl,hi,hb,hk⟩;refine ⟨_,rfl,?_⟩;have i_:=iw105_ hk (show IsS105 w0 _ g s0_0 t29 t30 from in105_ HI0);replace HO_5:=rat105_ i_ (kf_ HO_5 BK24) hk;replace HO_6:=rat105_ i_ (kf_ HO_6 BK24) hk;replace HO_25000:=rat105_ i_ (kf_ HO_25000 BK24) hk;replace HO_25003:=rat105_ i_ (kf_ HO_25003 BK24) hk;replace BK1:=kbk_ hk (kq_ (o':=.cells #[.slice none 0 0,.int .i64 0,.string (⟨#[]⟩:ByteArray),.slice none 0 0,.int .i64 0] 41 (0,0)) BK1) NB1_0;replace HO43:=rat105_ i_ (kf_ HO43 BK24) hk;replace HO48:=rat105_ i_ (kf_ HO48 BK24) hk;clear i_;replace BK24:=kbk_ hk (kq_ (o':=.cells #[.slice Ao45 t41.length co45,.int .i64 t44,.string t45,.slice Ao49 t46.length co49,.int .i64 t49] 41 (0,0)) BK24) NB24_0;replace HK:=ktr_ HK hk;replace HB:=am_ hb;replace HI0:=am_ hi;clear hb hk hi))
      go_roundg k1
      case measure => have:=HK1.out;omega
      case rel => exact ⟨(wrap64 (x8_1 - 1)),(t52),(t53),(t41),(t44),(t45),(t46),(t49),(.slice Ao45 t41.length co45),(.slice Ao49 t46.length co49),e1_,H',⟨by have:=HK1.out;omega⟩,⟨kr_ (Kd.R_mono HO_5.out (fun _ hk=>hk.2))⟩,⟨kr_ HO_6.out⟩,⟨kr_ (Kd.R_mono HO43.out (fun _ hk=>hk.1.2))⟩,⟨km_ HO48⟩,⟨kb_ BK1.out⟩,⟨kb_ BK24.out⟩,⟨in105_ HI0⟩,⟨kn_ HK⟩,⟨bi105_ HB⟩⟩
    ·have c21b0:=decide_eq_false c21
     have c21b1:decide (x25000_1.length < y607.length)=false:=decide_eq_false (fun h=>c21 (Int.ofNat_lt.mpr h))
     clear c21
     replace H:=bi_ H;obtain ⟨⟨t54,t55,t56⟩,A74,H⟩:=H
     dsimp only at H
     replace H:=itb_ H;obtain ⟨rfl,H⟩|⟨rfl,H⟩:=H
     ·have H':=am_ H
      clear H
      have hnb76:=NB24_1.out
      have hnc76:=NB1_24.out
      have hnb77:=NB24_0.out
      have hnc77:=NB0_24.out
      have hz78:=cz5_ BK24
      obtain ⟨Ao79,co79,eo79⟩:=Kd.R_slice HO_25000.out
      subst eo79
      go_wp2_with (first|((with_reducible refine gq_ 114 57 ?_);refine gc_ 57 Tryz.func114 (spec_l1Once.calls g s0_0 x1001_1 x1002_1 3 true t55 t56 w0 _ (in105_ HI0) (bi105_ HB) A74.out) ?_;rintro e w80 ⟨rfl,hi,hb,hk⟩;refine ⟨_,rfl,?_⟩;have i_:=iw105_ hk (show IsS105 w0 _ g s0_0 x1001_1 x1002_1 from in105_ HI0);replace HO_5:=rat105_ i_ (kr_ HO_5.out) hk;replace HO_6:=rat105_ i_ (kr_ HO_6.out) hk;replace HO_25000:=rat105_ i_ (kr_ HO_25000.out) hk;replace HO_25003:=rat105_ i_ (kr_ HO_25003.out) hk;clear i_;replace BK1:=kbk_ hk (kb_ BK1.out) NB1_0;replace BK24:=kbk_ hk (kb_ BK24.out) NB24_0;replace HK:=ktr_ HK hk;replace HB:=am_ hb;replace HI0:=am_ hi;clear hb hk hi;have hz81:=cz5_ BK24;obtain ⟨Ao82,co82,eo82⟩:=Kd.R_slice HO_25003.out;subst eo82))
      go_roundg k1
      case measure => have:=HK1.out;omega
      case rel => exact ⟨(wrap64 (x8_1 - 1)),(t55),(t56),(x25000_1),(x25001_1),(x25002_1),(x25003_1),((x25003_1.length:Int)),(.slice Ao79 x25000_1.length co79),(.slice Ao82 x25003_1.length co82),e1_,H',⟨by have:=HK1.out;omega⟩,⟨kfm_ HO_5 BK24⟩,⟨kfm_ HO_6 BK24⟩,⟨kfm_ HO_25000 BK24⟩,⟨kfm_ HO_25003 BK24⟩,⟨kq_ BK1⟩,⟨kq_ BK24⟩,⟨in105_ HI0⟩,⟨kn_ HK⟩,⟨bi105_ HB⟩⟩
     ·have H':=am_ H
      clear H
      have hnb83:=NB24_1.out
      have hnc83:=NB1_24.out
      have hnb84:=NB24_0.out
      have hnc84:=NB0_24.out
      have hz85:=cz5_ BK24
      obtain ⟨Ao86,co86,eo86⟩:=Kd.R_slice HO_25000.out
      subst eo86
      go_wp2_with (first|((with_reducible refine gq_ 114 57 ?_);refine gc_ 57 Tryz.func114 (spec_l1Once.calls g s0_0 x1001_1 x1002_1 3 false t55 t56 w0 _ (in105_ HI0) (bi105_ HB) A74.out) ?_;rintro e w87 ⟨rfl,hi,hb,hk⟩;refine ⟨_,rfl,?_⟩;have i_:=iw105_ hk (show IsS105 w0 _ g s0_0 x1001_1 x1002_1 from in105_ HI0);replace HO_5:=rat105_ i_ (kr_ HO_5.out) hk;replace HO_6:=rat105_ i_ (kr_ HO_6.out) hk;replace HO_25000:=rat105_ i_ (kr_ HO_25000.out) hk;replace HO_25003:=rat105_ i_ (kr_ HO_25003.out) hk;clear i_;replace BK1:=kbk_ hk (kb_ BK1.out) NB1_0;replace BK24:=kbk_ hk (kb_ BK24.out) NB24_0;replace HK:=ktr_ HK hk;replace HB:=am_ hb;replace HI0:=am_ hi;clear hb hk hi))
      go_roundg k1
      case measure => have:=HK1.out;omega
      case rel => exact ⟨(wrap64 (x8_1 - 1)),(t55),(t56),(x25000_1),(x25001_1),(x25002_1),(x25003_1),(x25004_1),(.slice Ao86 x25000_1.length co86),(u25003),e1_,H',⟨by have:=HK1.out;omega⟩,⟨kr_ HO_5.out⟩,⟨kr_ HO_6.out⟩,⟨kr_ HO_25000.out⟩,⟨kr_ HO_25003.out⟩,⟨kb_ BK1.out⟩,⟨kb_ BK24.out⟩,⟨in105_ HI0⟩,⟨kn_ HK⟩,⟨bi105_ HB⟩⟩
   ·have c20b0:decide (0 < x8_1)=false:=decide_eq_false c20
    clear c20
    simp only [Option.some.injEq,Prod.mk.injEq] at H
    obtain ⟨rfl,rfl,rfl,rfl,rfl,rfl,rfl,rfl,rfl⟩:=H
    have hnb88:=NB24_1.out
    have hnc88:=NB1_24.out
    have hnb89:=NB24_0.out
    have hnc89:=NB0_24.out
    have hz90:=cz5_ BK24
    obtain ⟨Ao91,co91,eo91⟩:=Kd.R_slice HO_25000.out
    subst eo91
    have hnb92:=NB1_0.out
    have hnc92:=NB0_1.out
    have hz93:=cz5_ BK1
    obtain ⟨Ao94,co94,eo94⟩:=Kd.R_slice HO_25003.out
    subst eo94
    go_wp2
    refine bodyPost_ret (rctt_ gb1 41 #[.slice Ao91 x25000_1.length co91,.int .i64 x25001_1,.string x25002_1,.slice Ao94 x25003_1.length co94,.int .i64 x25004_1] BK1 Tryz.underlying41) rfl ?_
    exact ⟨_,_,_,_,e2_,kfm_ HO_25000 BK1,kfm_ HO_25003 BK1,kfm_ HO_5 BK1,kfm_ HO_6 BK1,in105_ HI0,bi105_ HB,kn_ HK⟩
def spec_l11Log.f (k:Nat) (l0:List ByteArray):Option (List ByteArray × Int × ByteArray):=(spec_HeadOf.f k l0).bind fun bt2=>(some (l0,bt2.1,bt2.2))
theorem spec_l11Log.calls (k:Nat) (P0_:Nat->Prop) (u9000_:Value) (l0:List ByteArray) (r1:List ByteArray) (r2:Int) (r3:ByteArray) (w0 w:World) (hB:Below w0.heap.size w0 w) (ho0:Kd.R Kd.string 9 w w0.heap.size P0_ u9000_ l0) (h:spec_l11Log.f k l0=some (r1,r2,r3)) :
  Calls Tryz.prog 143 #[u9000_] w fun e w'=>∃ v0_:Value,e = .returned (.agg #[v0_,.int .i64 r2,.string r3])∧Kd.R Kd.string 9 w' w0.heap.size (fun k_=>(P0_ k_∨w.heap.size≤k_)) v0_ r1∧Below w0.heap.size w0 w'∧Kept w w' (fun k_=>P0_ k_):=by
 have hu39:=Tryz.underlying39
 have HO0:=am_ (show Kd.R Kd.string 9 w w0.heap.size (fun k_=>(P0_ k_∨w.heap.size≤k_)) u9000_ l0 from Kd.R_mono ho0 (fun k_ hk=>(.inl hk)))
 have HK:=am_ (Kept.refl w (fun k_=>P0_ k_))
 have HW0:=am_ hB.size
 have HB:=am_ hB
 clear hB
 have H:((spec_HeadOf.f k l0).bind fun bt2=>(some (l0,bt2.1,bt2.2)))=some (r1,r2,r3):=h
 clear h
 replace H:=bi_ H;obtain ⟨⟨t602,t3⟩,A2,H⟩:=H
 dsimp only at H
 replace H:=so3_ H;obtain ⟨rfl,rfl,rfl⟩:=H
 go_enter Tryz.func143,Tryz.ntmps143
 go_wp2_with (first|((with_reducible refine gd_ 2 ?_);refine x39_ 2 ?_;intro gb1 hg w3 hbox hb;replace HO0:=rb_ HO0 hb;have BK1:=am_ hbox;have GW1:=am_ ((by rw [hg];exact (by first|exact HK.out.1|exact (show Kept w _ (fun k_=>P0_ k_) from kt_ HK).1):w.heap.size≤gb1));replace HK:=am_ (Kept.below (S:=(fun k_=>P0_ k_)) (kt_ HK) hb);have GE1:=gg_ hg HB;replace HB:=ss_ HB hb;clear hb hbox hg;obtain ⟨Ao4,co4,eo4⟩:=Kd.R_slice HO0.out;subst eo4)|((with_reducible refine gq_ 110 5 ?_);refine gc_ 5 Tryz.func110 (spec_HeadOf.calls k _ _ l0 t602 t3 _ (ch_ HO0) (cl_ HO0) A2.out) ?_;rintro e w5 ⟨rfl,hb⟩;refine ⟨_,rfl,?_⟩;replace HO0:=rb_ HO0 hb;replace BK1:=kl_ BK1 hb;replace HK:=am_ (Kept.below (S:=(fun k_=>P0_ k_)) (by repeat (first|(with_reducible first|exact HK.out|apply Kept.alloc|apply Kept.drewN|apply Kept.drew|refine Kept.setCell ?_ (.inr GW1.out) _)|exact HK.out)) hb);replace HB:=ss_ HB hb;clear hb;have hz6:=cz3_ BK1))
 refine bodyPost_ret (rcr_ gb1 39 #[.slice Ao4 l0.length co4,.int .i64 t602,.string t3] BK1 Tryz.underlying39) rfl ?_
 exact ⟨_,e2_,kfm_ HO0 BK1,bw_ HB,by repeat (first|(with_reducible first|exact HK.out|apply Kept.alloc|apply Kept.drewN|apply Kept.drew|refine Kept.setCell ?_ (.inr GW1.out) _)|exact HK.out)⟩
def spec_l11Any.f (k:Nat) (s0_0:List Int) (s0_1:Int) (s0_2:Int):Option (List ByteArray × Int × ByteArray × Int × Int):=(spec_l6List.f k s0_0 s0_1 s0_2).bind fun bt2=>((spec_l11Log.f k bt2.1).bind fun bt7=>((spec_l1Below.f s0_0 bt2.2.1 bt2.2.2 10).bind fun bt13=>(if bt13.1=0 then (if bt7.1.length < 8796093022208 then (some ((bt7.1 ++ [(⟨#[120]⟩:ByteArray)]),bt7.2.1,bt7.2.2,bt13.2.1,bt13.2.2)) else (none)) else (if bt13.1=1 then (some (bt7.1,wrap64 (bt7.2.1+1),bt7.2.2,bt13.2.1,bt13.2.2)) else (some (bt7.1,bt7.2.1,bt7.2.2,bt13.2.1,bt13.2.2))))))
theorem spec_l11Any.calls (k:Nat) (g:Nat) (s0_0:List Int) (s0_1:Int) (s0_2:Int) (r1:List ByteArray) (r2:Int) (r3:ByteArray) (r4:Int) (r5:Int) (w0 w:World) (hI:IsS105 w0 w g s0_0 s0_1 s0_2) (hB:Below w0.heap.size w0 w) (h:spec_l11Any.f k s0_0 s0_1 s0_2=some (r1,r2,r3,r4,r5)) :
  Calls Tryz.prog 120 #[.pointer (some ⟨g,0,none⟩)] w fun e w'=>∃ v0_:Value,e = .returned (.agg #[v0_,.int .i64 r2,.string r3])∧Kd.R Kd.string 9 w' w.heap.size (fun _=>True) v0_ r1∧IsS105 w0 w' g s0_0 r4 r5∧Below w0.heap.size w0 w'∧KeepBut w w' g none:=by
 have hu39:=Tryz.underlying39
 have HI0:=am_ hI
 have HK:=am_ (KeepBut.refl w g none)
 have HL:=am_ hB.size
 clear hI
 have HW0:=am_ hB.size
 have HB:=am_ hB
 clear hB
 have H:((spec_l6List.f k s0_0 s0_1 s0_2).bind fun bt2=>((spec_l11Log.f k bt2.1).bind fun bt7=>((spec_l1Below.f s0_0 bt2.2.1 bt2.2.2 10).bind fun bt13=>(if bt13.1=0 then (if bt7.1.length < 8796093022208 then (some ((bt7.1 ++ [(⟨#[120]⟩:ByteArray)]),bt7.2.1,bt7.2.2,bt13.2.1,bt13.2.2)) else (none)) else (if bt13.1=1 then (some (bt7.1,wrap64 (bt7.2.1+1),bt7.2.2,bt13.2.1,bt13.2.2)) else (some (bt7.1,bt7.2.1,bt7.2.2,bt13.2.1,bt13.2.2)))))))=some (r1,r2,r3,r4,r5):=h
 clear h
 replace H:=bi_ H;obtain ⟨⟨t602,t5,t6⟩,A2,H⟩:=H
 dsimp only at H
 replace H:=bi_ H;obtain ⟨⟨t7,t10,t11⟩,A3,H⟩:=H
 dsimp only at H
 replace H:=bi_ H;obtain ⟨⟨t13,t14,t15⟩,A4,H⟩:=H
 dsimp only at H
 go_enter Tryz.func120,Tryz.ntmps120
 go_upto_if 9 with (first|((with_reducible refine gd_ 2 ?_);refine x39_ 2 ?_;intro gb1 hg w7 hbox hb;replace HB:=am_ (below_step (bs1_ HB (IsS105.ge HI0.out)) hb);have BK1:=am_ hbox;have GW1:=gw_ hg HK;have GE1:=am_ (Nat.le_trans HW0.out (gw_ hg HK).out);replace HK:=am_ (KeepBut.trans (kn_ HK) (KeepBut.of_below hb g none) (.inl rfl));have NB0_1:=am_ ((by rw [hg];exact Nat.ne_of_lt (IsS105.lt (show IsS105 w0 _ g s0_0 s0_1 s0_2 from in105_ HI0)):g ≠ gb1));have NB1_0:=am_ ((by rw [hg];exact Nat.ne_of_gt (IsS105.lt (show IsS105 w0 _ g s0_0 s0_1 s0_2 from in105_ HI0)):gb1 ≠ g));replace HI0:=am_ (IsS105.below (in105_ HI0) hb);clear hb hbox hg)|((with_reducible refine gq_ 118 5 ?_);refine gc_ 5 Tryz.func118 (spec_l6List.calls k g s0_0 s0_1 s0_2 t602 t5 t6 w0 _ (in105_ HI0) (bi105_ HB) A2.out) ?_;rintro e w8 ⟨v3,rfl,ho0,hi,hb,hk⟩;refine ⟨_,rfl,?_⟩;replace BK1:=kbk_ hk (kb_ BK1.out) NB1_0;have HO4:=am_ (Kd.R_lower ho0 (keep_size (w:=w) (g:=g) (row:=none) (kn_ HK)));replace HK:=ktr_ HK hk;replace HB:=am_ hb;replace HI0:=am_ hi;clear hb hk hi ho0;obtain ⟨Ao9,co9,eo9⟩:=Kd.R_slice HO4.out;subst eo9)|((with_reducible refine gq_ 143 6 ?_);refine gc_ 6 Tryz.func143 (spec_l11Log.calls k (fun k_=>some k_=(.slice Ao9 t602.length co9:Value).ownBlock) (.slice Ao9 t602.length co9) t602 t7 t10 t11 w0 _ (bi105_ HB) (Kd.R_lower (Kd.R_tight rfl HO4.out) HL.out) A3.out) ?_;rintro e w10 ⟨v8,rfl,ho0,hb,hkp⟩;refine ⟨_,rfl,?_⟩;replace HI0:=am_ (IsS105.kept (in105_ HI0) hkp (fun hs_=>(fun e_=>(IsS105.own_ne HI0.out HO4.out (by decide)) e_) hs_));replace BK1:=am_ (blk_kept (kb_ BK1.out) hkp (fun hs_=>(fun e_=>(Kd.R_ne HO4.out BK1.out (by decide)) e_) hs_));have HO9:=am_ (Kd.R_mono (ok':=fun k_=>True) (Kd.R_raise (d:=Kd.string) (b:=w0.heap.size) (b':=w.heap.size) (fun _ _ _ _ h_=>h_) ho0 (fun k_ e_=>Or.elim (ho0.1 k_ e_) (fun hs_=>(fun e_=>Kd.R_base HO4.out k_ e_.symm) hs_) (fun hn_=>Nat.le_trans (keep_size (w:=w) (g:=g) (row:=none) (kn_ HK)) hn_))) (fun k_ hk_=>trivial));replace HK:=am_ (Kept.keepG (kn_ HK) hkp (fun k_ hs_=>(fun e_=>.inr (Kd.R_base HO4.out k_ e_.symm)) hs_));replace HB:=am_ hb;clear HO4;clear hb hkp ho0)|((with_reducible refine gd_ 3 ?_);refine x39_ 3 ?_;intro gb12 hg w11 hbox hb;replace HO9:=rb_ HO9 hb;replace HB:=am_ (below_step (bs2_ HB (IsS105.ge HI0.out) GE1.out) hb);have BK12:=am_ hbox;have GW12:=gw_ hg HK;have GE12:=am_ (Nat.le_trans HW0.out (gw_ hg HK).out);replace HK:=am_ (KeepBut.trans (kn_ HK) (KeepBut.of_below hb g none) (.inl rfl));have NB1_12:=nla_ hg BK1;have NB12_1:=nga_ hg BK1;replace BK1:=kl_ BK1 hb;have NB0_12:=am_ ((by rw [hg];exact Nat.ne_of_lt (IsS105.lt (show IsS105 w0 _ g s0_0 t5 t6 from in105_ HI0)):g ≠ gb12));have NB12_0:=am_ ((by rw [hg];exact Nat.ne_of_gt (IsS105.lt (show IsS105 w0 _ g s0_0 t5 t6 from in105_ HI0)):gb12 ≠ g));replace HI0:=am_ (IsS105.below (in105_ HI0) hb);clear hb hbox hg;obtain ⟨Ao12,co12,eo12⟩:=Kd.R_slice HO9.out;subst eo12;have hnb13:=NB12_1.out;have hnc13:=NB1_12.out;have hnb14:=NB12_0.out;have hnc14:=NB0_12.out;have hz15:=cz3_ BK12)|((with_reducible refine gq_ 87 8 ?_);refine gc_ 8 Tryz.func87 (spec_l1Below.calls g s0_0 t5 t6 10 t13 t14 t15 w0 _ (in105_ HI0) (bi105_ HB) A4.out) ?_;rintro e w16 ⟨rfl,hi,hb,hk⟩;refine ⟨_,rfl,?_⟩;replace BK1:=kbk_ hk (kq_ (o':=.cells #[.slice none 0 0,.int .i64 0,.string (⟨#[]⟩:ByteArray)] 39 (0,0)) BK1) NB1_0;have i_:=iw105_ hk (show IsS105 w0 _ g s0_0 t5 t6 from in105_ HI0);replace HO9:=rat105_ i_ (kf_ HO9 BK12) hk;clear i_;replace BK12:=kbk_ hk (kq_ (o':=.cells #[.slice Ao12 t7.length co12,.int .i64 t10,.string t11] 39 (0,0)) BK12) NB12_0;replace HK:=ktr_ HK hk;replace HB:=am_ hb;replace HI0:=am_ hi;clear hb hk hi;have hz17:=cz3_ BK12))
 (try simp only [Act.put,List.setIfInBounds_toArray,List.set_cons_zero,List.set_cons_succ])
 replace H:=it_ H;obtain ⟨c5,H⟩|⟨c5,H⟩:=H
 ·have c5b0:(t13 == 0)=true:=beq_iff_eq.mpr c5
  have c5b1:(t13 != 0)=false:=bne_eq_false_iff_eq.mpr c5
  clear c5
  replace H:=ip_ H;obtain ⟨c6,H⟩:=H
  have LMc6:=am_ c6
  clear c6
  obtain ⟨y16,hy16⟩:∃ y_:List ByteArray,y_=(t7 ++ [(⟨#[120]⟩:ByteArray)]):=⟨_,rfl⟩
  replace H:(some (y16,t10,t11,t14,t15))=some (r1,r2,r3,r4,r5):=yh_ hy16 H
  have Ny16:=am_ hy16
  clear hy16
  replace H:=so5_ H;obtain ⟨rfl,rfl,rfl,rfl,rfl⟩:=H
  have hz17:=cz3_ BK12
  try go_wp2_with (first|((with_reducible refine gate_builtin (b:=.append) (xs:=#[.tmp 12,.tmp 13]) rfl ?_);at_builtin;refine Kd.R_append Kd.string w.heap.size rfl (.tmp 12) (.tmp 13) 22 9 (.string ⟨#[]⟩) 16 rfl Tryz.underlying22 info9 rfl (by decide) (by omega) (.slice Ao12 t7.length co12) t7 (⟨#[120]⟩:ByteArray) [.string (⟨#[120]⟩:ByteArray)] (fun _=>True) (fun _=>False) rfl rfl ?aP (fun _ hk=>hk.elim) ?aF ?aO (Below.refl _ _) ?aS ?aL ?_;(case aP=>exact rfl);(case aF=>exact (fun _ _=>trivial));(case aO=>exact (kr_ HO9.out));(case aS=>exact (keep_size (w:=w) (g:=g) (row:=none) (kn_ HK)));(case aL=>have:=LMc6.out;omega);intro v17 w18 ho hb hg hat;rw [← Ny16.out] at ho;replace BK1:=kg_ BK1 HO9 hg;replace BK12:=kg_ BK12 HO9 hg;replace HB:=am_ (below_weaken (bs3_ HB (IsS105.ge HI0.out) GE1.out GE12.out) HL.out hb);replace HI0:=am_ (IsS105.grown (in105_ HI0) hg (IsS105.own_ne HI0.out HO9.out (by decide)));replace HK:=am_ (KeepBut.trans (kn_ HK) (KeepBut.of_grown hg g) (Kd.R_base2 HO9.out));have HO18:=am_ ho;clear HO9;clear ho hb hg hat;obtain ⟨Ao19,co19,eo19⟩:=Kd.R_slice HO18.out;subst eo19;have hz20:=cz3_ BK12;have hnb21:=NB1_0.out;have hnc21:=NB0_1.out;have hz22:=cz3_ BK1))
  refine bodyPost_ret (rcr_ gb1 39 #[.slice Ao19 y16.length co19,.int .i64 t10,.string t11] BK1 Tryz.underlying39) rfl ?_
  exact ⟨_,e2_,kfm2_ HO18 BK12 BK1,in105_ HI0,bi105_ HB,kn_ HK⟩
 ·have c5b0:(t13 == 0)=false:=beq_eq_false_iff_ne.mpr c5
  have c5b1:(t13 != 0)=true:=bne_iff_ne.mpr c5
  replace H:=it_ H;obtain ⟨c23,H⟩|⟨c23,H⟩:=H
  ·have c23b0:(t13 == 1)=true:=beq_iff_eq.mpr c23
   have c23b1:(t13 != 1)=false:=bne_eq_false_iff_eq.mpr c23
   clear c23
   replace H:=so5_ H;obtain ⟨rfl,rfl,rfl,rfl,rfl⟩:=H
   have hz17:=cz3_ BK12;have hnb35:=NB1_0.out;have hnc35:=NB0_1.out;have hz36:=cz3_ BK1
   try go_wp2
   refine bodyPost_ret (rcr_ gb1 39 #[.slice Ao12 t7.length co12,.int .i64 (wrap64 (t10+1)),.string t11] BK1 Tryz.underlying39) rfl ?_
   exact ⟨_,e2_,kfm2_ HO9 BK12 BK1,in105_ HI0,bi105_ HB,kn_ HK⟩
  ·have c23b0:(t13 == 1)=false:=beq_eq_false_iff_ne.mpr c23
   have c23b1:(t13 != 1)=true:=bne_iff_ne.mpr c23
   replace H:=so5_ H;obtain ⟨rfl,rfl,rfl,rfl,rfl⟩:=H
   have hz17:=cz3_ BK12;have hnb48:=NB1_0.out;have hnc48:=NB0_1.out;have hz49:=cz3_ BK1
   try go_wp2
   refine bodyPost_ret (rcr_ gb1 39 #[.slice Ao12 t7.length co12,.int .i64 t10,.string t11] BK1 Tryz.underlying39) rfl ?_
   exact ⟨_,e2_,kfm_ HO9 BK1,in105_ HI0,bi105_ HB,kn_ HK⟩
def spec_l12Any.f (k:Nat) (s0_0:List Int) (s0_1:Int) (s0_2:Int):Option (List ByteArray × Int × ByteArray × List Int × Int × Int × Int):=(spec_l12Draw.f k s0_0 s0_1 s0_2).bind fun bt2=>((spec_l1Below.f s0_0 bt2.2.2.2.2.2.2.2.1 bt2.2.2.2.2.2.2.2.2 12).bind fun bt20=>(if bt20.1=0 then ((spec_l1Int.f s0_0 bt20.2.1 bt20.2.2 (([(-1),(bt2.2.2.2.1.length:Int),wrap64 ((bt2.2.2.2.1.length:Int) + 1)]:List Int))).bind fun bt26=>(some (bt2.1,bt2.2.1,bt2.2.2.1,bt2.2.2.2.1,bt26.1,bt26.2.1,bt26.2.2))) else (if bt20.1=1 then (if bt2.2.2.2.1.length < 140737488355328 then (some (bt2.1,bt2.2.1,bt2.2.2.1,(bt2.2.2.2.1 ++ [1]),bt2.2.2.2.2.1,bt20.2.1,bt20.2.2)) else (none)) else (if bt20.1=2 then ((spec_l11Any.f k s0_0 bt20.2.1 bt20.2.2).bind fun bt32=>(some (bt32.1,bt32.2.1,bt32.2.2.1,bt2.2.2.2.1,bt2.2.2.2.2.1,bt32.2.2.2.1,bt32.2.2.2.2))) else (some (bt2.1,bt2.2.1,bt2.2.2.1,bt2.2.2.2.1,bt2.2.2.2.2.1,bt20.2.1,bt20.2.2))))))
theorem spec_l12Any.calls (k:Nat) (g:Nat) (s0_0:List Int) (s0_1:Int) (s0_2:Int) (r1:List ByteArray) (r2:Int) (r3:ByteArray) (r4:List Int) (r5:Int) (r6:Int) (r7:Int) (w0 w:World) (hI:IsS105 w0 w g s0_0 s0_1 s0_2) (hB:Below w0.heap.size w0 w) (h:spec_l12Any.f k s0_0 s0_1 s0_2=some (r1,r2,r3,r4,r5,r6,r7)) :
  Calls Tryz.prog 89 #[.pointer (some ⟨g,0,none⟩)] w fun e w'=>∃ v0_ v3_:Value,e = .returned (.agg #[v0_,.int .i64 r2,.string r3,v3_,.int .i64 r5])∧Kd.R Kd.string 9 w' w.heap.size (fun _=>True) v0_ r1∧Kd.R (Kd.int .u8) 5 w' w.heap.size (fun _=>True) v3_ r4∧IsS105 w0 w' g s0_0 r6 r7∧Below w0.heap.size w0 w'∧KeepBut w w' g none:=by
 have hu41:=Tryz.underlying41
 have hu39:=Tryz.underlying39
 have HI0:=am_ hI
 have HK:=am_ (KeepBut.refl w g none)
 have HL:=am_ hB.size
 clear hI
 have HW0:=am_ hB.size
 have HB:=am_ hB
 clear hB
 have H:((spec_l12Draw.f k s0_0 s0_1 s0_2).bind fun bt2=>((spec_l1Below.f s0_0 bt2.2.2.2.2.2.2.2.1 bt2.2.2.2.2.2.2.2.2 12).bind fun bt20=>(if bt20.1=0 then ((spec_l1Int.f s0_0 bt20.2.1 bt20.2.2 (([(-1),(bt2.2.2.2.1.length:Int),wrap64 ((bt2.2.2.2.1.length:Int) + 1)]:List Int))).bind fun bt26=>(some (bt2.1,bt2.2.1,bt2.2.2.1,bt2.2.2.2.1,bt26.1,bt26.2.1,bt26.2.2))) else (if bt20.1=1 then (if bt2.2.2.2.1.length < 140737488355328 then (some (bt2.1,bt2.2.1,bt2.2.2.1,(bt2.2.2.2.1 ++ [1]),bt2.2.2.2.2.1,bt20.2.1,bt20.2.2)) else (none)) else (if bt20.1=2 then ((spec_l11Any.f k s0_0 bt20.2.1 bt20.2.2).bind fun bt32=>(some (bt32.1,bt32.2.1,bt32.2.2.1,bt2.2.2.2.1,bt2.2.2.2.2.1,bt32.2.2.2.1,bt32.2.2.2.2))) else (some (bt2.1,bt2.2.1,bt2.2.2.1,bt2.2.2.2.1,bt2.2.2.2.2.1,bt20.2.1,bt20.2.2)))))))=some (r1,r2,r3,r4,r5,r6,r7):=h
 clear h
 replace H:=bi_ H;obtain ⟨⟨t602,t5,t6,t7,t10,t11,t14,t17,t18⟩,A2,H⟩:=H
 dsimp only at H
 replace H:=bi_ H;obtain ⟨⟨t20,t21,t22⟩,A3,H⟩:=H
 dsimp only at H
 go_enter Tryz.func89,Tryz.ntmps89
 go_upto_if 14 with (first|((with_reducible refine gd_ 2 ?_);refine x41_ 2 ?_;intro gb1 hg w6 hbox hb;replace HB:=am_ (below_step (bs1_ HB (IsS105.ge HI0.out)) hb);have BK1:=am_ hbox;have GW1:=gw_ hg HK;have GE1:=am_ (Nat.le_trans HW0.out (gw_ hg HK).out);replace HK:=am_ (KeepBut.trans (kn_ HK) (KeepBut.of_below hb g none) (.inl rfl));have NB0_1:=am_ ((by rw [hg];exact Nat.ne_of_lt (IsS105.lt (show IsS105 w0 _ g s0_0 s0_1 s0_2 from in105_ HI0)):g ≠ gb1));have NB1_0:=am_ ((by rw [hg];exact Nat.ne_of_gt (IsS105.lt (show IsS105 w0 _ g s0_0 s0_1 s0_2 from in105_ HI0)):gb1 ≠ g));replace HI0:=am_ (IsS105.below (in105_ HI0) hb);clear hb hbox hg)|((with_reducible refine gq_ 113 8 ?_);refine gc_ 8 Tryz.func113 (spec_l12Draw.calls k g s0_0 s0_1 s0_2 t602 t5 t6 t7 t10 t11 t14 t17 t18 w0 _ (in105_ HI0) (bi105_ HB) A2.out) ?_;rintro e w7 ⟨v3,v8,v12,v15,rfl,ho0,ho1,ho2,ho3,hi,hb,hk⟩;refine ⟨_,rfl,?_⟩;replace BK1:=kbk_ hk (kb_ BK1.out) NB1_0;have HO4:=am_ (Kd.R_lower ho0 (keep_size (w:=w) (g:=g) (row:=none) (kn_ HK)));have HO9:=am_ (Kd.R_lower ho1 (keep_size (w:=w) (g:=g) (row:=none) (kn_ HK)));have HO13:=am_ (Kd.R_lower ho2 (keep_size (w:=w) (g:=g) (row:=none) (kn_ HK)));have HO16:=am_ (Kd.R_lower ho3 (keep_size (w:=w) (g:=g) (row:=none) (kn_ HK)));replace HK:=ktr_ HK hk;replace HB:=am_ hb;replace HI0:=am_ hi;clear hb hk hi ho0 ho1 ho2 ho3)|((with_reducible refine gd_ 3 ?_);refine x41_ 3 ?_;intro gb19 hg w8 hbox hb;replace HO4:=rb_ HO4 hb;replace HO9:=rb_ HO9 hb;replace HO13:=rb_ HO13 hb;replace HO16:=rb_ HO16 hb;replace HB:=am_ (below_step (bs2_ HB (IsS105.ge HI0.out) GE1.out) hb);have BK19:=am_ hbox;have GW19:=gw_ hg HK;have GE19:=am_ (Nat.le_trans HW0.out (gw_ hg HK).out);replace HK:=am_ (KeepBut.trans (kn_ HK) (KeepBut.of_below hb g none) (.inl rfl));have NB1_19:=nla_ hg BK1;have NB19_1:=nga_ hg BK1;replace BK1:=kl_ BK1 hb;have NB0_19:=am_ ((by rw [hg];exact Nat.ne_of_lt (IsS105.lt (show IsS105 w0 _ g s0_0 t17 t18 from in105_ HI0)):g ≠ gb19));have NB19_0:=am_ ((by rw [hg];exact Nat.ne_of_gt (IsS105.lt (show IsS105 w0 _ g s0_0 t17 t18 from in105_ HI0)):gb19 ≠ g));replace HI0:=am_ (IsS105.below (in105_ HI0) hb);clear hb hbox hg;obtain ⟨Ao9,co9,eo9⟩:=Kd.R_slice HO4.out;subst eo9;have hnb10:=NB19_1.out;have hnc10:=NB1_19.out;have hnb11:=NB19_0.out;have hnc11:=NB0_19.out;have hz12:=cz5_ BK19;obtain ⟨Ao13,co13,eo13⟩:=Kd.R_slice HO9.out;subst eo13)|((with_reducible refine gq_ 87 13 ?_);refine gc_ 13 Tryz.func87 (spec_l1Below.calls g s0_0 t17 t18 12 t20 t21 t22 w0 _ (in105_ HI0) (bi105_ HB) A3.out) ?_;rintro e w14 ⟨rfl,hi,hb,hk⟩;refine ⟨_,rfl,?_⟩;replace BK1:=kbk_ hk (kq_ (o':=.cells #[.slice none 0 0,.int .i64 0,.string (⟨#[]⟩:ByteArray),.slice none 0 0,.int .i64 0] 41 (0,0)) BK1) NB1_0;have i_:=iw105_ hk (show IsS105 w0 _ g s0_0 t17 t18 from in105_ HI0);replace HO4:=rat105_ i_ (kf_ HO4 BK19) hk;replace HO9:=rat105_ i_ (kf_ HO9 BK19) hk;replace HO13:=rat105_ i_ (kf_ HO13 BK19) hk;replace HO16:=rat105_ i_ (kf_ HO16 BK19) hk;clear i_;replace BK19:=kbk_ hk (kq_ (o':=.cells #[.slice Ao9 t602.length co9,.int .i64 t5,.string t6,.slice Ao13 t7.length co13,.int .i64 t10] 41 (0,0)) BK19) NB19_0;replace HK:=ktr_ HK hk;replace HB:=am_ hb;replace HI0:=am_ hi;clear hb hk hi;have hz15:=cz5_ BK19))
 (try simp only [Act.put,List.setIfInBounds_toArray,List.set_cons_zero,List.set_cons_succ])
 replace H:=it_ H;obtain ⟨c4,H⟩|⟨c4,H⟩:=H
 ·have c4b0:(t20 == 0)=true:=beq_iff_eq.mpr c4
  have c4b1:(t20 != 0)=false:=bne_eq_false_iff_eq.mpr c4
  clear c4
  obtain ⟨y23,hy23⟩:∃ y_:List Int,y_=(([(-1),(t7.length:Int),wrap64 ((t7.length:Int) + 1)]:List Int)):=⟨_,rfl⟩
  replace H:((spec_l1Int.f s0_0 t21 t22 y23).bind fun bt26=>(some (t602,t5,t6,t7,bt26.1,bt26.2.1,bt26.2.2)))=some (r1,r2,r3,r4,r5,r6,r7):=yh_ hy23 H
  have Ny23:=am_ hy23
  clear hy23
  replace H:=bi_ H;obtain ⟨⟨t26,t27,t28⟩,A5,H⟩:=H
  dsimp only at H
  replace H:=so7_ H;obtain ⟨rfl,rfl,rfl,rfl,rfl,rfl,rfl⟩:=H
  have hz15:=cz5_ BK19
  try go_wp2_with (first|((with_reducible refine gd_ 24 ?_);refine rl_ (Kd.int .i64) 3 24 ([(-1),(t7.length:Int),wrap64 ((t7.length:Int) + 1)]:List Int) [.int .i64 (-1),.int .i64 (t7.length:Int),.int .i64 (wrap64 ((t7.length:Int) + 1))] ?_;intro v24 w16 ho17 hb hg_ hnew_;clear hg_ hnew_;(first|rw [← Ny23.out] at ho17|(simp only [Int.reduceToNat] at ho17;rw [← Ny23.out] at ho17));replace HO4:=rb_ HO4 hb;replace HO9:=rb_ HO9 hb;replace HO13:=rb_ HO13 hb;have HO25:=am_ (Kd.R_lower ho17 (keep_size (w:=w) (g:=g) (row:=none) (kn_ HK)));replace BK1:=kl_ BK1 hb;replace BK19:=kl_ BK19 hb;replace HK:=am_ (KeepBut.trans (kn_ HK) (KeepBut.of_below hb g none) (.inl rfl));replace HB:=am_ (below_step (bs3_ HB (IsS105.ge HI0.out) GE1.out GE19.out) hb);replace HI0:=am_ (IsS105.below (in105_ HI0) hb);clear hb ho17;obtain ⟨Ao18,co18,eo18⟩:=Kd.R_slice HO25.out;subst eo18)|((with_reducible refine gq_ 53 25 ?_);refine gc_ 25 Tryz.func53 (spec_l1Int.calls g s0_0 t21 t22 _ _ y23 t26 t27 t28 w0 _ (in105_ HI0) (bi105_ HB) (ch_ HO25) (cl_ HO25) (far_slice (IsS105.own_ne HI0.out HO25.out (by decide))) A5.out) ?_;rintro e w19 ⟨rfl,hi,hb,hk⟩;refine ⟨_,rfl,?_⟩;replace BK1:=kbk_ hk (kb_ BK1.out) NB1_0;have i_:=iw105_ hk (show IsS105 w0 _ g s0_0 t21 t22 from in105_ HI0);replace HO4:=rat105_ i_ (kr_ HO4.out) hk;replace HO9:=rat105_ i_ (kr_ HO9.out) hk;replace HO13:=rat105_ i_ (kr_ HO13.out) hk;replace BK19:=kbk_ hk (kb_ BK19.out) NB19_0;replace HO25:=rat105_ i_ (kr_ HO25.out) hk;clear i_;replace HK:=ktr_ HK hk;replace HB:=am_ hb;replace HI0:=am_ hi;clear hb hk hi;have hz20:=cz5_ BK19;have hnb21:=NB1_0.out;have hnc21:=NB0_1.out;have hz22:=cz5_ BK1))
  refine bodyPost_ret (rcr_ gb1 41 #[.slice Ao9 t602.length co9,.int .i64 t5,.string t6,.slice Ao13 t7.length co13,.int .i64 t26] BK1 Tryz.underlying41) rfl ?_
  exact ⟨_,_,e2_,kfm2_ HO4 BK19 BK1,kfm2_ HO9 BK19 BK1,in105_ HI0,bi105_ HB,kn_ HK⟩
 ·have c4b0:(t20 == 0)=false:=beq_eq_false_iff_ne.mpr c4
  have c4b1:(t20 != 0)=true:=bne_iff_ne.mpr c4
  replace H:=it_ H;obtain ⟨c23,H⟩|⟨c23,H⟩:=H
  ·have c23b0:(t20 == 1)=true:=beq_iff_eq.mpr c23
   have c23b1:(t20 != 1)=false:=bne_eq_false_iff_eq.mpr c23
   clear c23
   replace H:=ip_ H;obtain ⟨c24,H⟩:=H
   have LMc24:=am_ c24
   clear c24
   obtain ⟨y29,hy29⟩:∃ y_:List Int,y_=(t7 ++ [1]):=⟨_,rfl⟩
   replace H:(some (t602,t5,t6,y29,t10,t21,t22))=some (r1,r2,r3,r4,r5,r6,r7):=yh_ hy29 H
   have Ny29:=am_ hy29
   clear hy29
   replace H:=so7_ H;obtain ⟨rfl,rfl,rfl,rfl,rfl,rfl,rfl⟩:=H
   have hz15:=cz5_ BK19
   try go_wp2_with (first|((with_reducible refine gate_builtin (b:=.append) (xs:=#[.tmp 30,.tmp 31]) rfl ?_);at_builtin;refine Kd.R_append (Kd.int .u8) w.heap.size rfl (.tmp 30) (.tmp 31) 27 5 (.int .u8 0) 1 rfl Tryz.underlying27 info5 rfl (by decide) (by omega) (.slice Ao13 t7.length co13) t7 1 [.int .u8 1] (fun _=>True) (fun _=>False) rfl rfl ?aP (fun _ hk=>hk.elim) ?aF ?aO (Below.refl _ _) ?aS ?aL ?_;(case aP=>exact rfl);(case aF=>exact (fun _ _=>trivial));(case aO=>exact (kr_ HO9.out));(case aS=>exact (keep_size (w:=w) (g:=g) (row:=none) (kn_ HK)));(case aL=>have:=LMc24.out;omega);intro v30 w35 ho hb hg hat;rw [← Ny29.out] at ho;replace BK1:=kg_ BK1 HO9 hg;replace HO4:=am_ (Kd.R_over' (kr_ HO4.out) (Kd.R_typed (kr_ HO9.out)) (by decide) hg);replace HO13:=am_ (Kd.R_over' (kr_ HO13.out) (Kd.R_typed (kr_ HO9.out)) (by decide) hg);replace BK19:=kg_ BK19 HO9 hg;replace HB:=am_ (below_weaken (bs3_ HB (IsS105.ge HI0.out) GE1.out GE19.out) HL.out hb);replace HI0:=am_ (IsS105.grown (in105_ HI0) hg (IsS105.own_ne HI0.out HO9.out (by decide)));replace HK:=am_ (KeepBut.trans (kn_ HK) (KeepBut.of_grown hg g) (Kd.R_base2 HO9.out));have HO31:=am_ ho;clear HO9;clear ho hb hg hat;obtain ⟨Ao36,co36,eo36⟩:=Kd.R_slice HO31.out;subst eo36;have hz37:=cz5_ BK19;have hnb38:=NB1_0.out;have hnc38:=NB0_1.out;have hz39:=cz5_ BK1))
   refine bodyPost_ret (rcr_ gb1 41 #[.slice Ao9 t602.length co9,.int .i64 t5,.string t6,.slice Ao36 y29.length co36,.int .i64 t10] BK1 Tryz.underlying41) rfl ?_
   exact ⟨_,_,e2_,kfm2_ HO4 BK19 BK1,kfm2_ HO31 BK19 BK1,in105_ HI0,bi105_ HB,kn_ HK⟩
  ·have c23b0:(t20 == 1)=false:=beq_eq_false_iff_ne.mpr c23
   have c23b1:(t20 != 1)=true:=bne_iff_ne.mpr c23
   replace H:=it_ H;obtain ⟨c40,H⟩|⟨c40,H⟩:=H
   ·have c40b0:(t20 == 2)=true:=beq_iff_eq.mpr c40
    have c40b1:(t20 != 2)=false:=bne_eq_false_iff_eq.mpr c40
    clear c40
    replace H:=bi_ H;obtain ⟨⟨t32,t35,t36,t37,t38⟩,A41,H⟩:=H
    dsimp only at H
    replace H:=so7_ H;obtain ⟨rfl,rfl,rfl,rfl,rfl,rfl,rfl⟩:=H
    try go_wp2_with (first|((with_reducible refine gq_ 120 37 ?_);refine gc_ 37 Tryz.func120 (spec_l11Any.calls k g s0_0 t21 t22 t32 t35 t36 t37 t38 w0 _ (in105_ HI0) (bi105_ HB) A41.out) ?_;rintro e w51 ⟨v33,rfl,ho0,hi,hb,hk⟩;refine ⟨_,rfl,?_⟩;replace BK1:=kbk_ hk (kb_ BK1.out) NB1_0;have i_:=iw105_ hk (show IsS105 w0 _ g s0_0 t21 t22 from in105_ HI0);replace HO9:=rat105_ i_ (kr_ HO9.out) hk;clear i_;replace BK19:=kbk_ hk (kb_ BK19.out) NB19_0;have HO34:=am_ (Kd.R_lower (Kd.R_new' (Kd.R_new' ho0 (lt_ HO4)) (lt_ HO13)) (keep_size (w:=w) (g:=g) (row:=none) (kn_ HK)));replace HO4:=am_ (Kd.R_mono (Kd.R_told (Kd.R_oldK (IsS105.apart (show IsS105 w0 _ g s0_0 t21 t22 from in105_ HI0) (kr_ HO4.out) (by decide)) hk) (Kd.R_base ho0)) (fun _ h_=>h_.1));replace HO13:=am_ (Kd.R_mono (Kd.R_told (Kd.R_oldK (IsS105.apart (show IsS105 w0 _ g s0_0 t21 t22 from in105_ HI0) (kr_ HO13.out) (by decide)) hk) (Kd.R_base ho0)) (fun _ h_=>h_.1));replace HK:=ktr_ HK hk;replace HB:=am_ hb;replace HI0:=am_ hi;clear hb hk hi ho0;obtain ⟨Ao52,co52,eo52⟩:=Kd.R_slice HO34.out;subst eo52;have hz53:=cz5_ BK19;have hnb54:=NB1_0.out;have hnc54:=NB0_1.out;have hz55:=cz5_ BK1))
    refine bodyPost_ret (rcr_ gb1 41 #[.slice Ao52 t32.length co52,.int .i64 t35,.string t36,.slice Ao13 t7.length co13,.int .i64 t10] BK1 Tryz.underlying41) rfl ?_
    exact ⟨_,_,e2_,kfm2_ HO34 BK19 BK1,kfm2_ HO9 BK19 BK1,in105_ HI0,bi105_ HB,kn_ HK⟩
   ·have c40b0:(t20 == 2)=false:=beq_eq_false_iff_ne.mpr c40
    have c40b1:(t20 != 2)=true:=bne_iff_ne.mpr c40
    replace H:=so7_ H;obtain ⟨rfl,rfl,rfl,rfl,rfl,rfl,rfl⟩:=H
    have hz15:=cz5_ BK19;have hnb66:=NB1_0.out;have hnc66:=NB0_1.out;have hz67:=cz5_ BK1
    try go_wp2
    refine bodyPost_ret (rcr_ gb1 41 #[.slice Ao9 t602.length co9,.int .i64 t5,.string t6,.slice Ao13 t7.length co13,.int .i64 t10] BK1 Tryz.underlying41) rfl ?_
    exact ⟨_,_,e2_,kfm_ HO4 BK1,kfm_ HO9 BK1,in105_ HI0,bi105_ HB,kn_ HK⟩
def spec_l10Any.j0:Nat->List (S37)->List Int->Int->Int->Option ((List (S37)) × Int × Int)
 | 0,_,_,_,_=>none
 | k+1,x3,x1000,x1001,x1002=>(spec_l1Once.f x1000 x1001 x1002 6).bind fun bt27=>(if bt27.1=true then ((spec_l1Int.f x1000 bt27.2.1 bt27.2.2 (([(-1),2,201]:List Int))).bind fun bt33=>(if x3.length < 5864062014805 then (some ((x3 ++ [(⟨bt33.1,(⟨#[120]⟩:ByteArray)⟩:S37)]),bt33.2.1,bt33.2.2)) else (none))) else (some (x3,bt27.2.1,bt27.2.2)))
def spec_l10Any.f (k:Nat) (s0_0:List Int) (s0_1:Int) (s0_2:Int):Option ((List (S37)) × Int × Int):=(spec_l6List.f k s0_0 s0_1 s0_2).bind fun bt1=>((spec_l10Table.f k s0_0 bt1.2.1 bt1.2.2 bt1.1).bind fun bt6=>((spec_l1Once.f s0_0 bt6.2.1 bt6.2.2 3).bind fun bt11=>(if bt11.1=true then ((spec_l1Below.f s0_0 bt11.2.1 bt11.2.2 4).bind fun bt14=>((spec_l1Below.f s0_0 bt14.2.1 bt14.2.2 3).bind fun bt17=>((spec_Digest.f k (([(bt17.1) % 256]:List Int))).bind fun t23=>(if bt6.1.length < 5864062014805 then (spec_l10Any.j0 k (bt6.1 ++ [(⟨bt14.1,t23⟩:S37)]) s0_0 bt17.2.1 bt17.2.2) else (none))))) else (spec_l10Any.j0 k bt6.1 s0_0 bt11.2.1 bt11.2.2))))
theorem spec_l10Any.calls (k:Nat) (g:Nat) (s0_0:List Int) (s0_1:Int) (s0_2:Int) (r1:List (S37)) (r2:Int) (r3:Int) (w0 w:World) (hI:IsS105 w0 w g s0_0 s0_1 s0_2) (hB:Below w0.heap.size w0 w) (h:spec_l10Any.f k s0_0 s0_1 s0_2=some (r1,r2,r3)) :
  Calls Tryz.prog 88 #[.pointer (some ⟨g,0,none⟩)] w fun e w'=>∃ v0_:Value,e = .returned (v0_)∧Kd.R k37 37 w' w.heap.size (fun _=>True) v0_ r1∧IsS105 w0 w' g s0_0 r2 r3∧Below w0.heap.size w0 w'∧KeepBut w w' g none:=by
 have hu37:=Tryz.underlying37
 have HI0:=am_ hI
 have HK:=am_ (KeepBut.refl w g none)
 have HL:=am_ hB.size
 clear hI
 have HW0:=am_ hB.size
 have HB:=am_ hB
 clear hB
 have H:((spec_l6List.f k s0_0 s0_1 s0_2).bind fun bt1=>((spec_l10Table.f k s0_0 bt1.2.1 bt1.2.2 bt1.1).bind fun bt6=>((spec_l1Once.f s0_0 bt6.2.1 bt6.2.2 3).bind fun bt11=>(if bt11.1=true then ((spec_l1Below.f s0_0 bt11.2.1 bt11.2.2 4).bind fun bt14=>((spec_l1Below.f s0_0 bt14.2.1 bt14.2.2 3).bind fun bt17=>((spec_Digest.f k (([(bt17.1) % 256]:List Int))).bind fun t23=>(if bt6.1.length < 5864062014805 then (spec_l10Any.j0 k (bt6.1 ++ [(⟨bt14.1,t23⟩:S37)]) s0_0 bt17.2.1 bt17.2.2) else (none))))) else (spec_l10Any.j0 k bt6.1 s0_0 bt11.2.1 bt11.2.2)))))=some (r1,r2,r3):=h
 clear h
 replace H:=bi_ H;obtain ⟨⟨t1,t4,t5⟩,A2,H⟩:=H
 dsimp only at H
 replace H:=bi_ H;obtain ⟨⟨t6,t9,t10⟩,A3,H⟩:=H
 dsimp only at H
 replace H:=bi_ H;obtain ⟨⟨t11,t12,t13⟩,A4,H⟩:=H
 dsimp only at H
 have HC5:=am_ H
 clear H
 go_enter Tryz.func88,Tryz.ntmps88
 go_upto_if 9 with (first|((with_reducible refine gq_ 118 6 ?_);refine gc_ 6 Tryz.func118 (spec_l6List.calls k g s0_0 s0_1 s0_2 t1 t4 t5 w0 _ (in105_ HI0) (bi105_ HB) A2.out) ?_;rintro e w6 ⟨v2,rfl,ho0,hi,hb,hk⟩;refine ⟨_,rfl,?_⟩;have HO3:=am_ (Kd.R_lower ho0 (keep_size (w:=w) (g:=g) (row:=none) (kn_ HK)));replace HK:=ktr_ HK hk;replace HB:=am_ hb;replace HI0:=am_ hi;clear hb hk hi ho0;obtain ⟨Ao7,co7,eo7⟩:=Kd.R_slice HO3.out;subst eo7)|((with_reducible refine gq_ 117 7 ?_);refine gc_ 7 Tryz.func117 (spec_l10Table.calls k g s0_0 t4 t5 _ _ t1 t6 t9 t10 w0 _ (in105_ HI0) (bi105_ HB) (ch_ HO3) (cl_ HO3) (far_slice (IsS105.own_ne HI0.out HO3.out (by decide))) A3.out) ?_;rintro e w8 ⟨v7,rfl,ho0,hi,hb,hk⟩;refine ⟨_,rfl,?_⟩;have i_:=iw105_ hk (show IsS105 w0 _ g s0_0 t4 t5 from in105_ HI0);replace HO3:=rat105_ i_ (kr_ HO3.out) hk;clear i_;have HO8:=am_ (Kd.R_lower ho0 (keep_size (w:=w) (g:=g) (row:=none) (kn_ HK)));replace HK:=ktr_ HK hk;replace HB:=am_ hb;replace HI0:=am_ hi;clear hb hk hi ho0)|((with_reducible refine gq_ 114 9 ?_);refine gc_ 9 Tryz.func114 (spec_l1Once.calls g s0_0 t9 t10 3 t11 t12 t13 w0 _ (in105_ HI0) (bi105_ HB) A4.out) ?_;rintro e w9 ⟨rfl,hi,hb,hk⟩;refine ⟨_,rfl,?_⟩;have i_:=iw105_ hk (show IsS105 w0 _ g s0_0 t9 t10 from in105_ HI0);replace HO3:=rat105_ i_ (kr_ HO3.out) hk;replace HO8:=rat105_ i_ (kr_ HO8.out) hk;clear i_;replace HK:=ktr_ HK hk;replace HB:=am_ hb;replace HI0:=am_ hi;clear hb hk hi))
 (try simp only [Act.put,List.setIfInBounds_toArray,List.set_cons_zero,List.set_cons_succ])
 go_cut [3] (fun v3 wc=>∃ (kq:Nat) (x3_4:List (S37)) (x1001_4:Int) (x1002_4:Int),Aside0 (spec_l10Any.j0 kq x3_4 s0_0 x1001_4 x1002_4=some (r1,r2,r3))∧Aside0 (kq≤k)∧Aside0 (Kd.R k37 37 wc w.heap.size (fun _=>True) v3 x3_4)∧Aside0 (IsS105 w0 wc g s0_0 x1001_4 x1002_4)∧Aside0 (KeepBut w wc g none)∧Aside0 (Below w0.heap.size w0 wc))
 case first =>
  have H:=HC5.out
  clear HC5
  replace H:=itb_ H;obtain ⟨rfl,H⟩|⟨rfl,H⟩:=H
  ·replace H:=bi_ H;obtain ⟨⟨t14,t15,t16⟩,A11,H⟩:=H
   dsimp only at H
   replace H:=bi_ H;obtain ⟨⟨t17,t18,t19⟩,A12,H⟩:=H
   dsimp only at H
   obtain ⟨y20,hy20⟩:∃ y_:List Int,y_=(([(t17) % 256]:List Int)):=⟨_,rfl⟩
   replace H:((spec_Digest.f k y20).bind fun t23=>(if t6.length < 5864062014805 then (spec_l10Any.j0 k (t6 ++ [(⟨t14,t23⟩:S37)]) s0_0 t18 t19) else (none)))=some (r1,r2,r3):=yh_ hy20 H
   have Ny20:=am_ hy20
   clear hy20
   replace H:=bi_ H;obtain ⟨t23,A13,H⟩:=H
   replace H:=ip_ H;obtain ⟨c14,H⟩:=H
   have LMc14:=am_ c14
   clear c14
   obtain ⟨y24,hy24⟩:∃ y_:List (S37),y_=(t6 ++ [(⟨t14,t23⟩:S37)]):=⟨_,rfl⟩
   replace H:(spec_l10Any.j0 k y24 s0_0 t18 t19)=some (r1,r2,r3):=yh_ hy24 H
   have Ny24:=am_ hy24
   clear hy24
   have H':=am_ H
   clear H
   go_wp2_with (first|((with_reducible refine gq_ 87 12 ?_);refine gc_ 12 Tryz.func87 (spec_l1Below.calls g s0_0 t12 t13 4 t14 t15 t16 w0 _ (in105_ HI0) (bi105_ HB) A11.out) ?_;rintro e w15 ⟨rfl,hi,hb,hk⟩;refine ⟨_,rfl,?_⟩;have i_:=iw105_ hk (show IsS105 w0 _ g s0_0 t12 t13 from in105_ HI0);replace HO8:=rat105_ i_ (kr_ HO8.out) hk;clear i_;replace HK:=ktr_ HK hk;replace HB:=am_ hb;replace HI0:=am_ hi;clear hb hk hi)|((with_reducible refine gq_ 87 14 ?_);refine gc_ 14 Tryz.func87 (spec_l1Below.calls g s0_0 t15 t16 3 t17 t18 t19 w0 _ (in105_ HI0) (bi105_ HB) A12.out) ?_;rintro e w16 ⟨rfl,hi,hb,hk⟩;refine ⟨_,rfl,?_⟩;have i_:=iw105_ hk (show IsS105 w0 _ g s0_0 t15 t16 from in105_ HI0);replace HO8:=rat105_ i_ (kr_ HO8.out) hk;clear i_;replace HK:=ktr_ HK hk;replace HB:=am_ hb;replace HI0:=am_ hi;clear hb hk hi)|((with_reducible refine gd_ 16 ?_);refine rl_ (Kd.int .u8) 5 16 ([(t17) % 256]:List Int) [.int .u8 ((t17) % 256)] ?_;intro v21 w17 ho18 hb hg_ hnew_;clear hg_ hnew_;(first|rw [← Ny20.out] at ho18|(simp only [Int.reduceToNat] at ho18;rw [← Ny20.out] at ho18));replace HO8:=rb_ HO8 hb;have HO22:=am_ (Kd.R_lower ho18 (keep_size (w:=w) (g:=g) (row:=none) (kn_ HK)));replace HK:=am_ (KeepBut.trans (kn_ HK) (KeepBut.of_below hb g none) (.inl rfl));replace HB:=am_ (below_step (bs1_ HB (IsS105.ge HI0.out)) hb);replace HI0:=am_ (IsS105.below (in105_ HI0) hb);clear hb ho18;obtain ⟨Ao19,co19,eo19⟩:=Kd.R_slice HO22.out;subst eo19)|((with_reducible refine gq_ 119 17 ?_);refine gc_ 17 Tryz.func119 (spec_Digest.calls k _ _ y20 t23 _ (ch_ HO22) (cl_ HO22) A13.out) ?_;rintro e w20 ⟨rfl,hb⟩;refine ⟨_,rfl,?_⟩;replace HO8:=rb_ HO8 hb;replace HO22:=rb_ HO22 hb;replace HK:=am_ (KeepBut.trans (kn_ HK) (KeepBut.of_below hb g none) (.inl rfl));replace HB:=am_ (below_step (bs1_ HB (IsS105.ge HI0.out)) hb);replace HI0:=am_ (IsS105.below (in105_ HI0) hb);clear hb)|((with_reducible refine gate_builtin (b:=.append) (xs:=#[.tmp 10,.tmp 19]) rfl ?_);at_builtin;refine Kd.R_append k37 w.heap.size rfl (.tmp 10) (.tmp 19) 45 37 (.agg #[(.int .i64 0),(.string ⟨#[]⟩)]) 24 rfl Tryz.underlying45 info37 rfl (by decide) (by omega) v7 t6 (⟨t14,t23⟩:S37) [.int .i64 t14,.string t23] (fun _=>True) (fun _=>False) rfl rfl ?aP (fun _ hk=>hk.elim) ?aF ?aO (Below.refl _ _) ?aS ?aL ?_;(case aP=>exact k37_mkM _ _ _ (⟨t14,t23⟩:S37));(case aF=>exact (fun _ _=>trivial));(case aO=>exact (kr_ HO8.out));(case aS=>exact (keep_size (w:=w) (g:=g) (row:=none) (kn_ HK)));(case aL=>have:=LMc14.out;omega);intro v25 w21 ho hb hg hat;rw [← Ny24.out] at ho;replace HO22:=am_ (Kd.R_over' (kr_ HO22.out) (Kd.R_typed (kr_ HO8.out)) (by decide) hg);replace HB:=am_ (below_weaken (bs1_ HB (IsS105.ge HI0.out)) HL.out hb);replace HI0:=am_ (IsS105.grown (in105_ HI0) hg (IsS105.own_ne HI0.out HO8.out (by decide)));replace HK:=am_ (KeepBut.trans (kn_ HK) (KeepBut.of_grown hg g) (Kd.R_base2 HO8.out));have HO26:=am_ ho;clear HO8;clear ho hb hg hat))
   go_meet
   case rel => exact ⟨_,(y24),(t18),(t19),H',⟨le_⟩,⟨kr_ HO26.out⟩,⟨in105_ HI0⟩,⟨kn_ HK⟩,⟨bi105_ HB⟩⟩
  ·have H':=am_ H
   clear H
   go_wp2
   go_meet
   case rel => exact ⟨_,(t6),(t12),(t13),H',⟨le_⟩,⟨kr_ HO8.out⟩,⟨in105_ HI0⟩,⟨kn_ HK⟩,⟨bi105_ HB⟩⟩
 case rest =>
  clear HC5
  obtain ⟨kq,x3_4,x1001_4,x1002_4,HA,HJ4,HO_3,HI0,HK,HB⟩:=hcut
  cases kq with
  | zero=>exact absurd HA.out (by simp [spec_l10Any.j0])
  | succ kj4 =>
   have H:=HA.out
   clear HA
   simp only [spec_l10Any.j0] at H
   replace H:=bi_ H;obtain ⟨⟨t27,t28,t29⟩,A22,H⟩:=H
   dsimp only at H
   replace H:=itb_ H;obtain ⟨rfl,H⟩|⟨rfl,H⟩:=H
   ·obtain ⟨y30,hy30⟩:∃ y_:List Int,y_=(([(-1),2,201]:List Int)):=⟨_,rfl⟩
    replace H:((spec_l1Int.f s0_0 t28 t29 y30).bind fun bt33=>(if x3_4.length < 5864062014805 then (some ((x3_4 ++ [(⟨bt33.1,(⟨#[120]⟩:ByteArray)⟩:S37)]),bt33.2.1,bt33.2.2)) else (none)))=some (r1,r2,r3):=yh_ hy30 H
    have Ny30:=am_ hy30
    clear hy30
    replace H:=bi_ H;obtain ⟨⟨t33,t34,t35⟩,A24,H⟩:=H
    dsimp only at H
    replace H:=ip_ H;obtain ⟨c25,H⟩:=H
    have LMc25:=am_ c25
    clear c25
    obtain ⟨y36,hy36⟩:∃ y_:List (S37),y_=(x3_4 ++ [(⟨t33,(⟨#[120]⟩:ByteArray)⟩:S37)]):=⟨_,rfl⟩
    replace H:(some (y36,t34,t35))=some (r1,r2,r3):=yh_ hy36 H
    have Ny36:=am_ hy36
    clear hy36
    replace H:=so3_ H;obtain ⟨rfl,rfl,rfl⟩:=H
    go_wp2_with (first|((with_reducible refine gq_ 114 22 ?_);refine gc_ 22 Tryz.func114 (spec_l1Once.calls g s0_0 x1001_4 x1002_4 6 true t28 t29 w0 _ (in105_ HI0) (bi105_ HB) A22.out) ?_;rintro e w26 ⟨rfl,hi,hb,hk⟩;refine ⟨_,rfl,?_⟩;have i_:=iw105_ hk (show IsS105 w0 _ g s0_0 x1001_4 x1002_4 from in105_ HI0);replace HO_3:=rat105_ i_ (kr_ HO_3.out) hk;clear i_;replace HK:=ktr_ HK hk;replace HB:=am_ hb;replace HI0:=am_ hi;clear hb hk hi)|((with_reducible refine gd_ 25 ?_);refine rl_ (Kd.int .i64) 3 25 ([(-1),2,201]:List Int) [.int .i64 (-1),.int .i64 2,.int .i64 201] ?_;intro v31 w27 ho28 hb hg_ hnew_;clear hg_ hnew_;(first|rw [← Ny30.out] at ho28|(simp only [Int.reduceToNat] at ho28;rw [← Ny30.out] at ho28));replace HO_3:=rb_ HO_3 hb;have HO32:=am_ (Kd.R_lower ho28 (keep_size (w:=w) (g:=g) (row:=none) (kn_ HK)));replace HK:=am_ (KeepBut.trans (kn_ HK) (KeepBut.of_below hb g none) (.inl rfl));replace HB:=am_ (below_step (bs1_ HB (IsS105.ge HI0.out)) hb);replace HI0:=am_ (IsS105.below (in105_ HI0) hb);clear hb ho28;obtain ⟨Ao29,co29,eo29⟩:=Kd.R_slice HO32.out;subst eo29)|((with_reducible refine gq_ 53 26 ?_);refine gc_ 26 Tryz.func53 (spec_l1Int.calls g s0_0 t28 t29 _ _ y30 t33 t34 t35 w0 _ (in105_ HI0) (bi105_ HB) (ch_ HO32) (cl_ HO32) (far_slice (IsS105.own_ne HI0.out HO32.out (by decide))) A24.out) ?_;rintro e w30 ⟨rfl,hi,hb,hk⟩;refine ⟨_,rfl,?_⟩;have i_:=iw105_ hk (show IsS105 w0 _ g s0_0 t28 t29 from in105_ HI0);replace HO_3:=rat105_ i_ (kr_ HO_3.out) hk;replace HO32:=rat105_ i_ (kr_ HO32.out) hk;clear i_;replace HK:=ktr_ HK hk;replace HB:=am_ hb;replace HI0:=am_ hi;clear hb hk hi)|((with_reducible refine gate_builtin (b:=.append) (xs:=#[.tmp 23,.tmp 28]) rfl ?_);at_builtin;refine Kd.R_append k37 w.heap.size rfl (.tmp 23) (.tmp 28) 45 37 (.agg #[(.int .i64 0),(.string ⟨#[]⟩)]) 24 rfl Tryz.underlying45 info37 rfl (by decide) (by omega) u3 x3_4 (⟨t33,(⟨#[120]⟩:ByteArray)⟩:S37) [.int .i64 t33,.string (⟨#[120]⟩:ByteArray)] (fun _=>True) (fun _=>False) rfl rfl ?aP (fun _ hk=>hk.elim) ?aF ?aO (Below.refl _ _) ?aS ?aL ?_;(case aP=>exact k37_mkM _ _ _ (⟨t33,(⟨#[120]⟩:ByteArray)⟩:S37));(case aF=>exact (fun _ _=>trivial));(case aO=>exact (kr_ HO_3.out));(case aS=>exact (keep_size (w:=w) (g:=g) (row:=none) (kn_ HK)));(case aL=>have:=LMc25.out;omega);intro v37 w31 ho hb hg hat;rw [← Ny36.out] at ho;replace HO32:=am_ (Kd.R_over' (kr_ HO32.out) (Kd.R_typed (kr_ HO_3.out)) (by decide) hg);replace HB:=am_ (below_weaken (bs1_ HB (IsS105.ge HI0.out)) HL.out hb);replace HI0:=am_ (IsS105.grown (in105_ HI0) hg (IsS105.own_ne HI0.out HO_3.out (by decide)));replace HK:=am_ (KeepBut.trans (kn_ HK) (KeepBut.of_grown hg g) (Kd.R_base2 HO_3.out));have HO38:=am_ ho;clear HO_3;clear ho hb hg hat))
    go_ret
    exact ⟨_,e2_,kr_ HO38.out,in105_ HI0,bi105_ HB,kn_ HK⟩
   ·replace H:=so3_ H;obtain ⟨rfl,rfl,rfl⟩:=H
    go_wp2_with (first|((with_reducible refine gq_ 114 22 ?_);refine gc_ 22 Tryz.func114 (spec_l1Once.calls g s0_0 x1001_4 x1002_4 6 false t28 t29 w0 _ (in105_ HI0) (bi105_ HB) A22.out) ?_;rintro e w32 ⟨rfl,hi,hb,hk⟩;refine ⟨_,rfl,?_⟩;have i_:=iw105_ hk (show IsS105 w0 _ g s0_0 x1001_4 x1002_4 from in105_ HI0);replace HO_3:=rat105_ i_ (kr_ HO_3.out) hk;clear i_;replace HK:=ktr_ HK hk;replace HB:=am_ hb;replace HI0:=am_ hi;clear hb hk hi))
    go_ret
    exact ⟨_,e2_,kr_ HO_3.out,in105_ HI0,bi105_ HB,kn_ HK⟩
def spec_BestHead.l0:Nat->List (S37)->Int->Int->ByteArray->Option (Int × ByteArray)
 | 0,_,_,_,_=>none
 | k+1,x0,x4,x4000,x4001=>if x4 < (x0.length:Int) then (if 0≤x4 then (if ((rd_T37 x0 x4).f0) > x4000 then (spec_BestHead.l0 k x0 (wrap64 (x4+1)) ((rd_T37 x0 x4).f0) ((rd_T37 x0 x4).f1)) else (spec_BestHead.l0 k x0 (wrap64 (x4+1)) x4000 x4001)) else (none)) else (some (x4000,x4001))
def spec_BestHead.f (k:Nat) (l0:List (S37)):Option (Int × ByteArray):=if (l0.length:Int)=0 then (some (0,(⟨#[]⟩:ByteArray))) else (if 0 < (l0.length:Int) then (spec_BestHead.l0 k l0 1 ((rd_T37 l0 0).f0) ((rd_T37 l0 0).f1)) else (none))
theorem spec_BestHead.calls (k:Nat) (A0:Option Addr) (c0:Nat) (l0:List (S37)) (r1:Int) (r2:ByteArray) (w:World) (hr0:Kd.C k37 w A0 l0.length l0) (hc0:l0.length≤c0) (h:spec_BestHead.f k l0=some (r1,r2)) :
  Calls Tryz.prog 115 #[.slice A0 l0.length c0] w fun e w'=>e = .returned (.agg #[.int .i64 r1,.string r2])∧Below w.heap.size w w':=by
 have hu37:=Tryz.underlying37
 have HR0:=am_ hr0
 have HC0:=am_ hc0
 clear hr0 hc0
 have HB:=h0_ w
 have H:(if (l0.length:Int)=0 then (some (0,(⟨#[]⟩:ByteArray))) else (if 0 < (l0.length:Int) then (spec_BestHead.l0 k l0 1 ((rd_T37 l0 0).f0) ((rd_T37 l0 0).f1)) else (none)))=some (r1,r2):=h
 clear h
 replace H:=it_ H;obtain ⟨c2,H⟩|⟨c2,H⟩:=H
 ·have c2b0:((l0.length:Int) == 0)=true:=beq_iff_eq.mpr c2
  have c2b1:((l0.length:Int) != 0)=false:=bne_eq_false_iff_eq.mpr c2
  clear c2
  replace H:=so2_ H;obtain ⟨rfl,rfl⟩:=H
  go_enter Tryz.func115,Tryz.ntmps115
  go_wp2_with (first|((with_reducible refine gd_ 2 ?_);refine x37_ 2 (hx_ HB ?_);clear HB;intro gb1 w3 BK1 GW1 HB;have GE1:=GW1;have hz4:=cz2_ BK1))
  repeat (go_quiet (first|((with_reducible refine gd_ 2 ?_);refine x37_ 2 ?_;intro gb1 hg w3 hbox hb;have BK1:=am_ hbox;have GW1:=gg_ hg HB;have GE1:=gg_ hg HB;replace HB:=ss_ HB hb;clear hb hbox hg;have hcz4:=cz2_ BK1));try go_wp2_with (first|((with_reducible refine gd_ 2 ?_);refine x37_ 2 (hx_ HB ?_);clear HB;intro gb1 w3 BK1 GW1 HB;have GE1:=GW1;have hz4:=cz2_ BK1)))
  refine bodyPost_ret (rcr_ gb1 37 #[.int .i64 0,.string (⟨#[]⟩:ByteArray)] BK1 Tryz.underlying37) rfl ?_
  exact ⟨e2_,bw_ HB⟩
 ·have c2b0:((l0.length:Int) == 0)=false:=beq_eq_false_iff_ne.mpr c2
  have c2b1:((l0.length:Int) != 0)=true:=bne_iff_ne.mpr c2
  have c2b2:¬ (l0=[]):=fun h_=>c2 (by rw [h_];rfl)
  replace H:=ip_ H;obtain ⟨c5,H⟩:=H
  have c5b0:=decide_eq_true c5
  have c5b1:decide (0 < l0.length)=true:=decide_eq_true (by omega)
  clear c5
  have H':=am_ H
  clear H
  go_enter Tryz.func115,Tryz.ntmps115
  go_wp2_with (first|((with_reducible refine gd_ 2 ?_);refine x37_ 2 (hx_ HB ?_);clear HB;intro gb1 w6 BK1 GW1 HB;have GE1:=GW1;have p602:0≤(0:Int):=(by omega);have q602:0 < (l0.length:Int):=od_;obtain ⟨ad2,e602,hx2_0,hx2_1⟩:=at_T37 HR0.out 0 p602 q602;cases e602;have qi2:(0 < l0.length)=True:=eq_true (by omega);(try rw [show ((0:Int)).toNat=0 from rfl] at hx2_0);(try rw [show 0 * 2=0 from rfl] at hx2_0);(try rw [Addr.add_zero'] at hx2_0);(try rw [show ((0:Int)).toNat=0 from rfl] at hx2_1);(try rw [show 0 * 2=0 from rfl] at hx2_1);(try rw [Addr.add_zero'] at hx2_1);replace hx2_0:=cw_ HB hx2_0;replace hx2_1:=cw_ HB hx2_1;replace p602:=eq_true p602;replace q602:=eq_true q602)|((with_reducible refine gd_ 3 ?_);refine x37_ 3 ?_;intro gb3 hg w7 hbox hb;have BK3:=am_ hbox;have GW3:=gg_ hg HB;have GE3:=GW3;replace HB:=ss_ HB hb;have NB1_3:=nla_ hg BK1;have NB3_1:=nga_ hg BK1;replace BK1:=kl_ BK1 hb;clear hb hbox hg;have hnb8:=NB3_1.out;have hnc8:=NB1_3.out;have hz9:=cz2_ BK3))
  repeat (go_quiet (first|((with_reducible refine gd_ 2 ?_);refine x37_ 2 ?_;intro gb1 hg w6 hbox hb;have BK1:=am_ hbox;have GW1:=gg_ hg HB;have GE1:=gg_ hg HB;replace HB:=ss_ HB hb;clear hb hbox hg;have p602:0≤(0:Int):=(by omega);have q602:0 < (l0.length:Int):=od_;obtain ⟨ad2,e602,hx2_0,hx2_1⟩:=at_T37 HR0.out 0 p602 q602;cases e602;have qi2:(0 < l0.length)=True:=eq_true (by omega);(try rw [show ((0:Int)).toNat=0 from rfl] at hx2_0);(try rw [show 0 * 2=0 from rfl] at hx2_0);(try rw [Addr.add_zero'] at hx2_0);(try rw [show ((0:Int)).toNat=0 from rfl] at hx2_1);(try rw [show 0 * 2=0 from rfl] at hx2_1);(try rw [Addr.add_zero'] at hx2_1);replace hx2_0:=cw_ HB hx2_0;replace hx2_1:=cw_ HB hx2_1;replace p602:=eq_true p602;replace q602:=eq_true q602)|((with_reducible refine gd_ 3 ?_);refine x37_ 3 ?_;intro gb3 hg w7 hbox hb;have BK3:=am_ hbox;have GW3:=gg_ hg HB;have GE3:=gg_ hg HB;replace HB:=ss_ HB hb;have NB1_3:=nla_ hg BK1;have NB3_1:=nga_ hg BK1;replace BK1:=kl_ BK1 hb;clear hb hbox hg;have hnb8:=NB3_1.out;have hnc8:=NB1_3.out;have hcz9:=cz2_ BK3));try go_wp2_with (first|((with_reducible refine gd_ 2 ?_);refine x37_ 2 (hx_ HB ?_);clear HB;intro gb1 w6 BK1 GW1 HB;have GE1:=GW1;have p602:0≤(0:Int):=(by omega);have q602:0 < (l0.length:Int):=od_;obtain ⟨ad2,e602,hx2_0,hx2_1⟩:=at_T37 HR0.out 0 p602 q602;cases e602;have qi2:(0 < l0.length)=True:=eq_true (by omega);(try rw [show ((0:Int)).toNat=0 from rfl] at hx2_0);(try rw [show 0 * 2=0 from rfl] at hx2_0);(try rw [Addr.add_zero'] at hx2_0);(try rw [show ((0:Int)).toNat=0 from rfl] at hx2_1);(try rw [show 0 * 2=0 from rfl] at hx2_1);(try rw [Addr.add_zero'] at hx2_1);replace hx2_0:=cw_ HB hx2_0;replace hx2_1:=cw_ HB hx2_1;replace p602:=eq_true p602;replace q602:=eq_true q602)|((with_reducible refine gd_ 3 ?_);refine x37_ 3 ?_;intro gb3 hg w7 hbox hb;have BK3:=am_ hbox;have GW3:=gg_ hg HB;have GE3:=GW3;replace HB:=ss_ HB hb;have NB1_3:=nla_ hg BK1;have NB3_1:=nga_ hg BK1;replace BK1:=kl_ BK1 hb;clear hb hbox hg;have hnb8:=NB3_1.out;have hnc8:=NB1_3.out;have hz9:=cz2_ BK3)))
  go_loopg [4] k (fun kq v4 w'=>∃ (x4_1:Int) (x4000_1:Int) (x4001_1:ByteArray),v4 = .int .i64 x4_1∧Aside0 (spec_BestHead.l0 kq l0 x4_1 x4000_1 x4001_1=some (r1,r2))∧Aside0 (kq≤k)∧Aside0 (w'.heap[gb1]?=some (.cells #[.int .i64 0,.string (⟨#[]⟩:ByteArray)] 37 (0,0)))∧Aside0 (w'.heap[gb3]?=some (.cells #[.int .i64 x4000_1,.string x4001_1] 37 (0,0)))∧Aside0 (Below w.heap.size w w'))
  case atStart => exact ⟨(1),((rd_T37 l0 0).f0),((rd_T37 l0 0).f1),e1_,H',⟨Nat.le_refl _⟩,⟨kq_ BK1⟩,⟨kq_ BK3⟩,⟨bw_ HB⟩⟩
  case round =>
   clear H'
   try clear c2
   try clear c2b0
   try clear c2b1
   try clear c2b2
   try clear c5
   try clear c5b0
   try clear c5b1
   try clear hz9
   try clear hx2_0
   try clear hx2_1
   try clear p602
   try clear q602
   obtain ⟨x4_1,x4000_1,x4001_1,rfl,HA,HK1,BK1,BK3,HB⟩:=hrel
   cases gk with
   | zero=>exact absurd HA.out (by simp [spec_BestHead.l0])
   | succ k1 =>
    have H:=HA.out
    clear HA
    simp only [spec_BestHead.l0] at H
    replace H:=itd_ H;obtain ⟨c10b0,H⟩|⟨c10b0,H⟩:=H
    ·replace H:=ipd_ H;obtain ⟨c11b0,H⟩:=H
     replace H:=it_ H;obtain ⟨c12,H⟩|⟨c12,H⟩:=H
     ·have c12b0:decide (x4000_1 < ((rd_T37 l0 x4_1).f0))=true:=decide_eq_true c12
      clear c12
      have H':=am_ H
      clear H
      have p604:0≤(x4_1:Int):=od_
      have q4:x4_1 < (l0.length:Int):=od_
      obtain ⟨ad4,e4,hx4_0,hx4_1⟩:=at_T37 HR0.out x4_1 p604 q4
      obtain rfl:ad2=ad4:=(by injection e4)
      replace hx4_0:=cw_ HB hx4_0
      replace hx4_1:=cw_ HB hx4_1
      replace p604:=eq_true p604
      replace q4:=eq_true q4
      have hnb13:=NB3_1.out
      have hnc13:=NB1_3.out
      have hz14:=cz2_ BK3
      have p605:0≤(x4_1:Int):=od_
      have q5:x4_1 < (l0.length:Int):=od_
      obtain ⟨ad5,e5,hx5_0,hx5_1⟩:=at_T37 HR0.out x4_1 p605 q5
      obtain rfl:ad2=ad5:=(by injection e5)
      replace hx5_0:=cw_ HB hx5_0
      replace hx5_1:=cw_ HB hx5_1
      replace p605:=eq_true p605
      replace q5:=eq_true q5
      go_wp2
      repeat (go_quiet (fail);try go_wp2)
      go_roundg k1
      case measure => have:=HK1.out;omega
      case rel => exact ⟨(wrap64 (x4_1+1)),((rd_T37 l0 x4_1).f0),((rd_T37 l0 x4_1).f1),e1_,H',⟨by have:=HK1.out;omega⟩,⟨kq_ BK1⟩,⟨kq_ BK3⟩,⟨bw_ HB⟩⟩
     ·have c12b0:decide (x4000_1 < ((rd_T37 l0 x4_1).f0))=false:=decide_eq_false c12
      clear c12
      have H':=am_ H
      clear H
      have p604:0≤(x4_1:Int):=od_
      have q4:x4_1 < (l0.length:Int):=od_
      obtain ⟨ad4,e4,hx4_0,hx4_1⟩:=at_T37 HR0.out x4_1 p604 q4
      obtain rfl:ad2=ad4:=(by injection e4)
      replace hx4_0:=cw_ HB hx4_0
      replace hx4_1:=cw_ HB hx4_1
      replace p604:=eq_true p604
      replace q4:=eq_true q4
      have hnb15:=NB3_1.out
      have hnc15:=NB1_3.out
      have hz16:=cz2_ BK3
      go_wp2
      repeat (go_quiet (fail);try go_wp2)
      go_roundg k1
      case measure => have:=HK1.out;omega
      case rel => exact ⟨(wrap64 (x4_1+1)),(x4000_1),(x4001_1),e1_,H',⟨by have:=HK1.out;omega⟩,⟨kb_ BK1.out⟩,⟨kb_ BK3.out⟩,⟨bw_ HB⟩⟩
    ·replace H:=so2_ H;obtain ⟨rfl,rfl⟩:=H
     have hnb17:=NB3_1.out
     have hnc17:=NB1_3.out
     have hz18:=cz2_ BK3
     have hz19:=cz2_ BK1
     go_wp2
     repeat (go_quiet (fail);try go_wp2)
     refine bodyPost_ret (rcr_ gb1 37 #[.int .i64 x4000_1,.string x4001_1] BK1 Tryz.underlying37) rfl ?_
     exact ⟨e2_,bw_ HB⟩
end Go.Proofs.YtnlndmoecljicaaGreat.Q
end
