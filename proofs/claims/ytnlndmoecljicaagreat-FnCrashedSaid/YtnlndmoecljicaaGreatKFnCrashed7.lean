/- Behind a crash a drawn mirror is right, and has the beginning of what it had, and all that was sure; no condition. -/
-- Joined and shortened by a program of this session (wip/tools/shakecopy.py): the words of the print,texts of pp.sh and of mine.
import Derived.Test.YtnlndmoecljicaaGreatKFnCrashed6
set_option linter.unusedVariables false
set_option linter.unusedSimpArgs false
section
namespace Go.Proofs.YtnlndmoecljicaaGreat.Q
open Go.Proofs.YtnlndmoecljicaaGreat.B Go.Proofs.YtnlndmoecljicaaGreatW.PrintMore Go.Proofs.YtnlndmoecljicaaGreatW.PrintWords Go.RowKit
set_option maxHeartbeats 8000000
set_option maxRecDepth 100000
theorem opened_ev (t:List IHead) (ht:t.length≤9223372036854775807) (b:List Int) (hb:InB b) (hl:b.length≤60000) {l:List ByteArray} {bs:List Int} {L:List ByteArray} {m:List Int} {c:Nat} (o:Opened t l bs L m c) :
  ∀ (a:Nat) (cnt:Int),bs=b.drop a->a≤b.length->l.length≤200->(∀ x ∈ l,x.size≤bigB)->0≤cnt->cnt+((b.length - a:Nat):Int)≤60000 →
  Ev (fun k=>spec_OpenStore.l0 k t b cnt (a:Int) l (headOf l).1 (headOf l).2 (b.take a) 0) (L,(headOf L).1,(headOf L).2,b.take a ++ m,0,cnt+(c:Int)) ∧
  Ev (fun k=>impl_OpenStore.l0 k t b 0 cnt (a:Int) l (headOf l).1 (headOf l).2 (b.take a)) (L,(headOf L).1,(headOf L).2,b.take a ++ m,cnt+(c:Int)) ∧
  L.length≤200∧(∀ x ∈ L,x.size≤bigB)∧m.length+a≤b.length∧c≤b.length - a:=by
 induction o with
 | @stop l bs h =>
  intro a cnt e ha h1 h2 h3 h4
  refine ⟨?_,?_,h1,h2,by simp;omega,by omega⟩
  all_goals rw [List.append_nil,show cnt+((0:Nat):Int)=cnt by omega]
  ·refine Ev.step (fun k=>by simp only [spec_OpenStore.l0];rfl) ?_
   by_cases hlt:(a:Int) < (b.length:Int)
   ·obtain ⟨n,s,x,nx,ok,e1,e2,hx⟩:=getCommit_both b hb (by omega) (a:Int) (by omega) (by omega)
    obtain ⟨n',s',x',nx',ok',e3,_,c1,c2⟩:=getCommitI b hb (by omega) (a:Int) (by omega) (by omega)
    have hu:=ev_uniq e3 e2
    simp only [Prod.mk.injEq] at hu
    obtain ⟨rfl,rfl,rfl,rfl,rfl⟩:=hu
    refine Ev.pos hlt (Ev.bind e1 ?_)
    cases hok:ok' with
    | false=>exact Ev.neg (by simp) (Ev.now _)
    | true =>
     obtain ⟨a',N,g1,rfl,g2,g3,g4,g5,g6⟩:=c1 hok
     have ea:a'=a:=by omega
     subst ea
     have hsm:=commit_small (by omega) g4
     have hbad:=h N s' x' _ (e.trans g4) g2 g3 hx hsm
     obtain ⟨q,hq,hq0⟩:=ext_bad (headOf l).1 (headOf l).2 hbad
     have htx:∀ y ∈ x',y.size≤bigB:=fun y hy=>by
      have w1:=commitB_length N s' x'
      have w2:=bodyB_ge N s' x'
      have w3:=total_mem hy
      unfold bigB
      omega
     refine Ev.pos rfl ?_
     have hE:=spec_Extend_ev t l (headOf l).1 (headOf l).2 (N:Int) s' x' ht (sizes_app h2 htx) (by omega)
     unfold extendOf at hE
     rw [if_pos (logOk_head h1),hq] at hE
     have hC:Ev (fun k=>spec_l12Commit.f k l (headOf l).1 (headOf l).2 (b.take a') 0 t (N:Int) s' x') (l,(headOf l).1,(headOf l).2,b.take a',0,q):=by
      unfold spec_l12Commit.f
      rw [spec_l12Copy_eq l _ _ _ _ (by omega) (by rw [List.length_take];omega)]
      simp only [Option.bind_some]
      exact Ev.bind hE (Ev.neg hq0 (Ev.now _))
     exact Ev.bind hC (Ev.neg hq0 (Ev.now _))
   ·exact Ev.neg hlt (Ev.now _)
  ·refine Ev.step (fun k=>by simp only [impl_OpenStore.l0];rfl) ?_
   by_cases hlt:(a:Int) < (b.length:Int)
   ·obtain ⟨n',s',x',nx',ok',e3,hx,c1,c2⟩:=getCommitI b hb (by omega) (a:Int) (by omega) (by omega)
    refine Ev.pos hlt (Ev.bind e3 ?_)
    cases hok:ok' with
    | false=>exact Ev.neg (by simp) (Ev.now _)
    | true =>
     obtain ⟨a',N,g1,rfl,g2,g3,g4,g5,g6⟩:=c1 hok
     have ea:a'=a:=by omega
     subst ea
     have hsm:=commit_small (by omega) g4
     have hbad:=h N s' x' _ (e.trans g4) g2 g3 hx hsm
     obtain ⟨q,hq,hq0⟩:=ext_bad (headOf l).1 (headOf l).2 hbad
     have w1:=commitB_length N s' x'
     have w2:=bodyB_ge N s' x'
     have htx:∀ y ∈ x',y.size≤bigB:=fun y hy=>by
      have w3:=total_mem hy
      unfold bigB
      omega
     refine Ev.pos rfl ?_
     have hP:=PutCommit_val (N:Int) s' x' (by omega) (by omega) hsm
     rw [if_pos ⟨g2,g3,hx⟩,Int.toNat_natCast] at hP
     have hE:=impl_extend_ev t l (headOf l).1 (headOf l).2 (N:Int) s' x' ht (sizes_app h2 htx) (by omega)
     rw [hq] at hE
     have hlt2:(b.take a').length=a':=by rw [List.length_take];omega
     have hC:Ev (fun k=>impl_Store_commit.f k l (headOf l).1 (headOf l).2 (b.take a') 0 t (N:Int) s' x') (l,(headOf l).1,(headOf l).2,b.take a',q):=by
      unfold impl_Store_commit.f
      refine Ev.bind hP (Ev.neg ?_ (Ev.bind hE (Ev.neg hq0 (Ev.now _))))
      rw [hlt2,w64 (by omega) (by omega)]
      omega
     exact Ev.bind hC (Ev.neg hq0 (Ev.now _))
   ·exact Ev.neg hlt (Ev.now _)
 | @step l r L m c N s x hk hx1 hx2 hsm hg o ih =>
  intro a cnt e ha h1 h2 h3 h4
  obtain ⟨e1,e2⟩:=take_more ha e.symm
  have hlen:=commit_pos N s x
  have hdl:(b.drop a).length=b.length - a:=List.length_drop
  have hcl:(commitB N s x).length≤b.length - a:=by
   rw [← hdl,← e,List.length_append]
   omega
  have w1:=commitB_length N s x
  have w2:=bodyB_ge N s x
  have htx:∀ y ∈ x,y.size≤bigB:=fun y hy=>by
   have w3:=total_mem hy
   unfold bigB
   omega
  obtain ⟨hh1,hh2⟩:=isHead_is hg.2.2.1
  have hfew:(l ++ x).length≤200:=by
   have:=hg.2.2.2
   have hk':=hk
   unfold headOk at hk'
   rw [List.length_append]
   by_cases hc:(0:Int)≤(N:Int)∧(N:Int)≤200
   ·omega
   ·rw [if_neg hc] at hk'
    cases hk'
  obtain ⟨i1,i2,i3,i4,i5,i6⟩:=ih (a+(commitB N s x).length) (cnt+1) e2 (by omega) hfew (sizes_app h2 htx) (by omega) (by omega)
  rw [← hh1,← hh2,← e1,show cnt+1+(c:Int)=cnt+((c+1:Nat):Int) by omega,List.append_assoc] at i1 i2
  have h32:=headOk_is hk
  have hlt:(a:Int) < (b.length:Int):=by omega
  have hlt2:(b.take a).length=a:=by rw [List.length_take];omega
  have hread:∃ nx,nx=((a+(commitB N s x).length:Nat):Int)∧Ev (fun q=>spec_GetCommit.f q b (a:Int)) ((N:Int),s,x,nx,true)∧Ev (fun q=>impl_GetCommit.f q b (a:Int)) ((N:Int),s,x,nx,true):=by
   obtain ⟨n,s',x',nx,ok,f1,f2,hx⟩:=getCommit_both b hb (by omega) (a:Int) (by omega) (by omega)
   obtain ⟨n',s'',x'',nx',ok',f3,_,c1,c2⟩:=getCommitI b hb (by omega) (a:Int) (by omega) (by omega)
   have hu:=ev_uniq f3 f2
   simp only [Prod.mk.injEq] at hu
   obtain ⟨rfl,rfl,rfl,rfl,rfl⟩:=hu
   cases hok:ok' with
   | false=>exact absurd ((c2 hok).2.2.2.2 a N s x r rfl e.symm hk hx1 hx2 hsm) (by simp)
   | true =>
    obtain ⟨a',N',g1,rfl,g2,g3,g4,g5,g6⟩:=c1 hok
    have ea:a'=a:=by omega
    subst ea
    obtain ⟨rfl,rfl,rfl,_⟩:=commitB_inj (e.trans g4)
    rw [hok] at f1 f2
    exact ⟨nx',g5,f1,f2⟩
  obtain ⟨nx,hnx,f1,f2⟩:=hread
  subst hnx
  have w64c:wrap64 (cnt+1)=cnt+1:=w64 (by omega) (by omega)
  refine ⟨?_,?_,i3,i4,by rw [List.length_append];omega,by omega⟩
  ·have hE:=spec_Extend_ev t l (headOf l).1 (headOf l).2 (N:Int) s x ht (sizes_app h2 htx) (by omega)
   unfold extendOf at hE
   rw [if_pos (logOk_head h1),ext_good hx1 hg] at hE
   have hP:=l12Put_val N s x (by have:=hg.2.2.2;rw [List.length_append] at hfew;omega) (by omega) (by omega) (by omega) hsm
   have hC:Ev (fun k=>spec_l12Commit.f k l (headOf l).1 (headOf l).2 (b.take a) 0 t (N:Int) s x) (l ++ x,(N:Int),s,b.take a ++ commitB N s x,0,0):=by
    unfold spec_l12Commit.f
    rw [spec_l12Copy_eq l _ _ _ _ (by omega) (by rw [List.length_take];omega)]
    simp only [Option.bind_some]
    exact Ev.bind hE (Ev.pos rfl (Ev.bind hP (Ev.pos (by rw [hlt2];omega) (Ev.now _))))
   refine Ev.step (fun k=>by simp only [spec_OpenStore.l0];rfl) ?_
   refine Ev.pos hlt (Ev.bind f1 (Ev.pos rfl (Ev.bind hC (Ev.pos rfl ?_))))
   rw [w64c]
   exact i1
  ·have hP:=PutCommit_val (N:Int) s x (by omega) (by omega) hsm
   rw [if_pos ⟨hk,hx1,hx2⟩,Int.toNat_natCast] at hP
   have hE:=impl_extend_ev t l (headOf l).1 (headOf l).2 (N:Int) s x ht (sizes_app h2 htx) (by omega)
   rw [ext_good hx1 hg] at hE
   have hC:Ev (fun k=>impl_Store_commit.f k l (headOf l).1 (headOf l).2 (b.take a) 0 t (N:Int) s x) (l ++ x,(N:Int),s,b.take a ++ commitB N s x,0):=by
    unfold impl_Store_commit.f
    refine Ev.bind hP (Ev.neg ?_ (Ev.bind hE (Ev.pos rfl (Ev.pos (by rw [hlt2];omega) (Ev.now _)))))
    rw [hlt2,w64 (by omega) (by omega)]
    omega
   refine Ev.step (fun k=>by simp only [impl_OpenStore.l0];rfl) ?_
   refine Ev.pos hlt (Ev.bind f2 (Ev.pos rfl (Ev.bind hC (Ev.pos rfl ?_))))
   rw [w64c]
   exact i2
theorem openStore_ev (t:List IHead) (ht:t.length≤9223372036854775807) (b:List Int) (hb:InB b) {L:List ByteArray} {m:List Int} {c:Nat} (o:Opened t [] (firstB b) L m c) :
  Ev (fun k=>spec_OpenStore.f k t b) (L,(headOf L).1,(headOf L).2,m,(m.length:Int),(c:Int))∧Ev (fun k=>impl_OpenStore.f k t b) (L,(headOf L).1,(headOf L).2,m,(m.length:Int),(c:Int))∧L.length≤200∧(∀ x ∈ L,x.size≤bigB)∧m.length≤60000:=by
 have hf:(firstB b).length≤60000:=by
  unfold firstB
  rw [List.length_take]
  omega
 have hb2:InB (firstB b):=fun x hx=>hb x (List.mem_of_mem_take hx)
 obtain ⟨e1,e2,e3,e4,e5,e6⟩:=opened_ev t ht (firstB b) hb2 hf o 0 0 rfl (by omega) (by simp) (by simp) (by omega) (by omega)
 simp only [List.take_zero,List.nil_append,Int.zero_add] at e1 e2
 have s1:(if (b.length:Int) > 60000 then b.take (60000:Int).toNat else b)=firstB b:=by
  unfold firstB
  by_cases h:(b.length:Int) > 60000
  ·rw [if_pos h]
   rfl
  ·rw [if_neg h,List.take_of_length_le (by omega)]
 have s2:b.take (mn (b.length:Int) 60000).toNat=firstB b:=by
  unfold firstB mn
  by_cases h:(60000:Int) < (b.length:Int)
  ·rw [if_pos h]
   rfl
  ·rw [if_neg h,Int.toNat_natCast,List.take_length,List.take_of_length_le (by omega)]
 refine ⟨?_,?_,e3,e4,by omega⟩
 ·unfold spec_OpenStore.f
  rw [s1]
  exact Ev.bind spec_StoreNew_ev (Ev.bind e1 (Ev.now _))
 ·unfold impl_OpenStore.f
  rw [s2]
  exact Ev.bind impl_StoreNew_ev (Ev.bind e2 (Ev.now _))
theorem fallOf_inB {b:List Int} (h:InB b) (u keep:Int):InB (fallOf b u keep):=fun x hx=>h x (List.mem_of_mem_take hx)
theorem crash_told (i:Int) (l:List ByteArray) (n:Int) (s:ByteArray) (b:List Int) (u c:Int) (z:ByteArray) (t:List IHead) (keep:Int) (hb:InB b) (hl:b.length≤1048576) (hk:l.length≤1048576) (hs:∀ x ∈ l,x.size≤bigB) (ht:t.length≤9223372036854775807)
  {L:List ByteArray} {m:List Int} {q:Nat} (o:Opened t [] (firstB (fallOf b u keep)) L m q) {r:Bool} (h1:Ev (fun k=>spec_MirrorOk.f k i l n s b u c z t) r) (h2:Ev (fun k=>impl_MirrorOk.f k i l n s b u c z t) r) :
  Ev (fun k=>spec_CrashMirror.f k i l n s b u c z t keep) (if r=true then (i,L,(headOf L).1,(headOf L).2,m,(m.length:Int),(headOf L).1,(headOf L).2,(q:Int)) else (i,l,n,s,b,u,c,z, -1))∧Ev (fun k=>impl_CrashMirror.f k i l n s b u c z t keep) (if r=true then (i,L,(headOf L).1,(headOf L).2,m,(m.length:Int),(headOf L).1,(headOf L).2,(q:Int)) else (i,l,n,s,b,u,c,z, -1)):=by
 have k1:=impl_copyMirror_eq i l n s b u c z (by omega) (by omega)
 have k2:=spec_l14Copy_eq i l n s b u c z (by omega) (by omega)
 have f1:=spec_FallStore_ev l n s b u keep hl
 have f2:=impl_FallStore_eq l n s b u keep hl
 obtain ⟨o1,o2,_⟩:=openStore_ev t ht (fallOf b u keep) (fallOf_inB hb u keep) o
 unfold spec_CrashMirror.f impl_CrashMirror.f
 cases r with
 | true =>
  have hC:Ev (fun k=>spec_l14Crash.f k i l n s b u c z t keep) (i,L,(headOf L).1,(headOf L).2,m,(m.length:Int),(headOf L).1,(headOf L).2,(q:Int)):=by
   unfold spec_l14Crash.f
   exact Ev.bind f1 (Ev.bind o1 (Ev.now _))
  exact ⟨Ev.bind h1 (Ev.pos rfl (Ev.bind hC (Ev.now _))),Ev.bind (Ev.const k1) (Ev.bind h2 (Ev.pos rfl (Ev.bind (Ev.const f2) (Ev.bind o2 (Ev.now _)))))⟩
 | false=>exact ⟨Ev.bind h1 (Ev.neg (by simp) (Ev.bind (Ev.const k2) (Ev.now _))),Ev.bind (Ev.const k1) (Ev.bind h2 (Ev.neg (by simp) (Ev.now _)))⟩
end Go.Proofs.YtnlndmoecljicaaGreat.Q
end
section
namespace Go.Proofs.YtnlndmoecljicaaGreat.Q
open Go.RowKit Go.Proofs.YtnlndmoecljicaaGreat.B Go.Proofs.YtnlndmoecljicaaGreatW.PrintWords
abbrev CrashT:=Int × List ByteArray × Int × ByteArray × List Int × Int × Int × ByteArray × List IHead × Int
theorem drawCrash_ev (c:List Int) (hc:c.length≤1048576):∃ r:CrashT,Ev (fun k=>spec_DrawCrashMirror.f k c) r∧SmallS r.2.1 r.2.2.2.2.1∧r.2.2.2.2.2.2.2.2.1.length≤1000:=by
 obtain ⟨h,hN⟩:=l1New_ev c hc
 obtain ⟨⟨a1,a2,a3,a4,a5,a6,a7,a8,a9,a10,j,g⟩,e1,s1,s2,d1⟩:=l14Any_ev h (Drawer.new hc)
 simp only at s1 s2 d1
 obtain ⟨y,i3,h3,e3,_,d3⟩:=l1Int_ok g ([0,1,60,1000,(-1)]:List Int) d1 (by simp) (by simp)
 unfold spec_DrawCrashMirror.f
 exact exb hN (exb e1 (exb (Ev.const e3) ⟨_,Ev.now _,s1,s2⟩))
theorem sync_told (i:Int) (l:List ByteArray) (n:Int) (s:ByteArray) (b:List Int) (u c:Int) (z:ByteArray) (t:List IHead) (hl:b.length≤1048576) (hk:l.length≤1048576) {r:Bool} (h2:Ev (fun k=>impl_MirrorOk.f k i l n s b u c z t) r) :
  Ev (fun k=>impl_SyncMirror.f k i l n s b u c z t) (i,l,n,s,b,(if r=true then (b.length:Int) else u),c,z):=by
 have k1:=impl_copyMirror_eq i l n s b u c z (by omega) (by omega)
 unfold impl_SyncMirror.f
 cases r with
 | true=>exact Ev.bind (Ev.const k1) (Ev.bind h2 (Ev.pos rfl (Ev.now _)))
 | false=>exact Ev.bind (Ev.const k1) (Ev.bind h2 (Ev.neg (by simp) (Ev.now _)))
theorem fall_small {b:List Int} (u keep:Int) (h:b.length≤60000):∃ n:Nat,fallOf b u keep=b.take n∧firstB (fallOf b u keep)=b.take n:=by
 refine ⟨_,rfl,?_⟩
 unfold fallOf
 exact first_take _ h
theorem fall_all {b:List Int} (h:b.length≤60000):firstB (fallOf b (b.length:Int) 0)=b:=by
 unfold fallOf fallAt
 rw [first_take _ h]
 exact List.take_of_length_le (by omega)
theorem pure_FnCrashed:laws_FnCrashed.Pure:=by
 intro l0 g0
 refine Ev.rounds (g:=fun k=>laws_FnCrashed.f k l0) ?_
 unfold laws_FnCrashed.f laws_big.f
 by_cases hbig:(l0.length:Int) > 1048576
 ·exact Ev.pos (decide_eq_true hbig) (Ev.now _)
 ·refine Ev.neg (by rw [decide_eq_true_eq];exact hbig) ?_
  obtain ⟨⟨i,l,n,s,b,u,c,z,t,keep⟩,hD,⟨s1,s2,s3,s4⟩,ht⟩:=drawCrash_ev l0 (by omega)
  simp only at s1 s2 s3 s4 ht
  obtain ⟨r,h1,h2,hr,_⟩:=mirrorOk_told i l n s b u c z t s3 (by omega) s2 (by omega)
  obtain ⟨L,m,q,o⟩:=opened_some t (firstB (fallOf b u keep)).length [] (firstB (fallOf b u keep)) (Nat.le_refl _)
  obtain ⟨e1,e2⟩:=crash_told i l n s b u c z t keep s3 (by omega) (by omega) s2 (by omega) o h1 h2
  have e3:=sync_told i l n s b u c z t (by omega) (by omega) h2
  cases r with
  | false =>
   rw [if_neg (by simp)] at e1 e2 e3
   have hS:=laws_same_ev l l (by omega)
   rw [decide_eq_true rfl] at hS
   exact Ev.bind hD (Ev.bind e2 (Ev.bind e1 (Ev.pos rfl (Ev.bind e3 (Ev.pos (by simp) (Ev.bind h2 (Ev.neg (by simp) (Ev.bind hS (Ev.now _)))))))))
  | true =>
   rw [if_pos rfl] at e1 e2 e3
   obtain ⟨r1,r2,r3,r4,r5⟩:=hr rfl
   obtain ⟨_,_,_,rfl,rfl,t2,c2,o2⟩:=storeOk_conv l n s b u s3 s2 r5
   obtain ⟨w,h3,h4,_,hw⟩:=mirrorOk_told i l (headOf l).1 (headOf l).2 b (b.length:Int) c z t s3 (by omega) s2 (by omega)
   have hok:=storeOk_opened t2 b s3 (by omega) o2 (b.length:Int) (by omega) (by omega)
   have hw1:w=true:=hw r1 r2 r3 r4 hok
   subst hw1
   obtain ⟨L2,m2,q2,o3⟩:=opened_some t (firstB (fallOf b (b.length:Int) 0)).length [] (firstB (fallOf b (b.length:Int) 0)) (Nat.le_refl _)
   obtain ⟨_,e4⟩:=crash_told i l (headOf l).1 (headOf l).2 b (b.length:Int) c z t 0 s3 (by omega) (by omega) s2 (by omega) o3 h3 h4
   rw [if_pos rfl] at e4
   obtain ⟨k,hk1,hk2⟩:=fall_small u keep (show b.length≤60000 by omega)
   rw [hk2] at o
   rw [fall_all (by omega)] at o3
   obtain ⟨_,_,b1,b2,b3⟩:=openStore_ev t (by omega) (b.take k) (inB_first9 k s3) (L:=L) (m:=m) (c:=q) (by rw [first_take k (by omega)];exact o)
   obtain ⟨e,he⟩:=opened_begins o o2
   obtain ⟨f,hf⟩:=opened_pre o (b2:=b.drop k) (by rw [List.take_append_drop];exact o3)
   have hm:=opened_inB o (inB_first9 k s3)
   have hst:=storeOk_opened t m hm b3 (opened_self o) (m.length:Int) (by omega) (by omega)
   have hbg:=begins_ev L e (by rw [← he];omega)
   rw [← he] at hbg
   refine Ev.bind hD (Ev.bind e2 (Ev.bind e1 (Ev.pos rfl (Ev.bind e3 (Ev.neg (by simp only;omega) (Ev.bind e4 (Ev.bind hst (Ev.pos rfl (Ev.bind hbg (Ev.pos rfl (Ev.pos (by simp) (Ev.bind h4 (Ev.pos rfl ?_)))))))))))))
   have hlen:L2.length=L.length+f.length:=by rw [hf,List.length_append]
   exact Ev.one (Ev.now _) (by simp only [decide_eq_true_eq];omega)
end Go.Proofs.YtnlndmoecljicaaGreat.Q
namespace Go.Proofs.YtnlndmoecljicaaGreat
theorem fnCrashed_holds:Rows.FnCrashedSaid:=Q.FnCrashed_row Q.pure_FnCrashed
end Go.Proofs.YtnlndmoecljicaaGreat
end
