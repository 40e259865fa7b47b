-- Joined and shortened by a program of this session (wip/tools/shakecopy.py): the words of the print,texts of pp.sh and of mine.
import Derived.Test.YtnlndmoecljicaaGreatKFnCrashed0
import Derived.Lib.AppendStr
import Derived.Deep.Slices
import Derived.ChangeArms
import Derived.Lib.Strings
import Derived.Test.YtnlndmoecljicaaGreatProg
import Derived.Below
import Derived.Deep.Draws
import Derived.Deep.AppendLies
import Derived.Maps.AppendAt
import Derived.OwnWalk
import Derived.Laws.BytesArg
import Derived.Laws.MakeOwn
import Derived.Laws.OwnMore
import Derived.Deep.OwnRows
import Derived.Tactics
import Derived.Lib.ConvBytes
import Derived.Laws.Slices
import Derived.WalkKit
import Derived.KernelRfl
import Derived.RowKit3
import Derived.Deep.LoopGhost
import Derived.Deep.QuietTactic
import Derived.BigQuiet
import Derived.WideLaws
import Derived.Deep.DeepCutAuto
import Derived.Deep.CutBlock
import Derived.Deep.RegionHeld3
import Derived.Laws.Rows
import Derived.ArgAppend
import Derived.Laws.IdiomCopy
import Derived.OrdersHeld
import Derived.Laws.BitsLemmas
import Derived.RowKit
import Derived.RegionTactic
import Derived.IntWalk
import Derived.Lib.SliceRun
set_option linter.unusedVariables false
set_option linter.unusedSimpArgs false
section
namespace Go.Proofs.YtnlndmoecljicaaGreatW.PrintMore
open Go Go.Lib Go.Proofs.YtnlndmoecljicaaGreatW.PrintWords Go.RowKit
theorem append_str_hat {P:Program} (w:World) (base:Nat) (t u ty e:TypeId) (i:TypeInfo) (ht:P.underlying t=some (.slice e)) (hu:P.underlying u=some .string) (hi:P.info? e=some i) (hz:i.zero=some (.int .u8 0))
  (hsize:i.size=1) (hby:i.bytes=1) (v:Value) (n:Nat) (xs:List Value) (hown:w.ownsRow base e 1 v n xs) (s:ByteArray) (hbytes:n+s.size≤140737488355328) {v':Value} {w':World}
  (hr:(Builtin.append_ #[t,u] ty #[v,.string s]).run P w = .ok v' w'):v'.ownBlock=v.ownBlock∨∃ b,v'.ownBlock=some b∧w.heap.size≤b:=by
 have hxl:xs.length=n:=by simpa using hown.1
 rcases hown.2 with ⟨rfl,rfl⟩|⟨g,cap,cur,rfl,hbg,hg,hnc,hcm,hcs,htake⟩
 ·by_cases hm:s.size=0
  ·have hf:=Lib.run_firstCells_string (P:=P) w 1 s
   rw [hm] at hf
   simp [Builtin.append_,run_underlying ht,run_underlying hu,sizeOf,typeInfo,hi,hsize,Builtin.lenOf,hm,hf] at hr
   left
   rw [← hr.1]
  ·have h2:=run_append_nil_string (P:=P) w t u ty e i (.int .u8 0) ht hu hi hz s (by omega) (by omega) (by rw [hby];omega)
   rw [h2] at hr
   cases hr
   exact .inr ⟨w.heap.size,rfl,Nat.le_refl _⟩
 ·by_cases hroom:n+s.size≤cap
  ·have h2:=Lib.run_append_room_string (P:=P) w t u ty e i ht hu hi hsize g n cap cur hg s hroom (by omega)
   rw [h2] at hr
   cases hr
   exact .inl rfl
  ·have holds:∀ j u,xs[j]?=some u->w.cell? ((⟨g,0,none⟩:Addr).add j)=some u:=hown.cells (g:=g) rfl
   have h2:=Lib.run_append_grow_string (P:=P) w t u ty e i (.int .u8 0) ht hu hi hz ⟨g,0,none⟩ n cap xs (by rw [hsize];simpa using hxl) holds s (by omega) (by omega) (by rw [hby];exact growslice_fits (by omega) (by omega))
   rw [h2] at hr
   cases hr
   exact .inr ⟨w.heap.size,rfl,Nat.le_refl _⟩
section
variable {P:Program} {ops:Array Oper} {rest:List Oper} {o:Oper} {a:Act} {Q:Exit->Act->World->Prop}
theorem print_append_strR {w0 W:World} (base:Nat) (hgd:o.guard=none) (s x:Operand) (t u e:TypeId)
  (ho:o.op = .call { callee:=.builtin .append,args:=#[s,x],argTypes:=#[t,u] })
  (ht:P.underlying t=some (.slice e)) (hu:P.underlying u=some .string) (hinfo:(P.info? e).map (fun i=>(i.zero,i.size,i.bytes))=some (some (.int .u8 0),1,1))
  (v:Value) (xs:List Int) (y:ByteArray) (ok:Nat->Prop) (hs:a.eval s=v) (hx:a.eval x = .string y) (hfresh:∀ k,W.heap.size≤k->ok k)
  (HO:Kd.R (Kd.int .u8) e W base ok v xs) (HB:Below base w0 W) (hbase:base≤W.heap.size) (hl:xs.length+y.size≤140737488355328)
  (h:∀ v1 w1,Kd.R (Kd.int .u8) e w1 base ok v1 (xs ++ bytesOf y)->Below base w0 w1->W.grownBy w1 v.ownBlock->(v1.ownBlock=v.ownBlock∨∃ b,v1.ownBlock=some b∧W.heap.size≤b)->wpList P ops Q rest (a.put o.dst v1) w1) :
  wpList P ops Q (o :: rest) a W:=by
 obtain ⟨i0,hi,hzz⟩:=Option.map_eq_some_iff.1 hinfo
 simp only [Prod.mk.injEq] at hzz
 obtain ⟨hz0,hz1,hz2⟩:=hzz
 have hO:=Kd.own_of_R HO
 refine wpList_plain hgd fun K hK=>?_
 obtain ⟨v',w',hr,h2,h3,h4⟩:=Lib.run_append_own_string (P:=P) W base t u o.type e i0 ht hu hi hz0 hz1 hz2 v xs.length _ hO y (by simp only [maxLen];omega) hl hbase
 have hat:=append_str_hat W base t u o.type e i0 ht hu hi hz0 hz1 hz2 v xs.length _ hO y hl hr
 have hl2:(xs ++ bytesOf y).length=xs.length+y.size:=by rw [List.length_append,bytesOf_length]
 have hc:nums .u8 (xs ++ bytesOf y)=nums .u8 xs ++ Lib.strCells y:=by
  rw [nums_append]
  congr 1
  simp [nums,bytesOf,Lib.strCells]
 have hR:w'.ownsRow base e 1 v' (xs ++ bytesOf y).length (nums .u8 (xs ++ bytesOf y)):=by
  rw [hl2,hc]
  exact h2
 have hB:Below base w0 w':=HB.grown h3 hbase (own_base hO)
 unfold Oper.wp execOp
 simp only [ho,resolve,invoke,builtin,Sem.run_bind,Sem.run_pure,Result.andThen_ok,List.map_toArray,List.map_cons,List.map_nil,hs,hx,hr]
 refine hK _ _ (h v' w' (Kd.R_of_own hR (fun k hk=>?_)) hB h3 hat)
 rcases hat with ha|⟨b,ha,hb⟩
 ·exact HO.1 k (by rw [← ha];exact hk)
 ·rw [ha] at hk
  cases hk
  exact hfresh _ hb
end
end Go.Proofs.YtnlndmoecljicaaGreatW.PrintMore
end
section
namespace Go.Proofs.YtnlndmoecljicaaGreat.XO
open Go.ChangeShapes Go.Proofs.YtnlndmoecljicaaGreatW.PrintWords Go.RowKit Go.WideShapes
section
def Opens {α:Type} (P:Program) (d:Kd α) (t:TypeId) (G:α->Prop):Prop :=
 ∀ {H:Type} {enc:TypeId × Value->H} {w:World} {base:Nat} {spare:Nat->Bool} {held:Bool} {fuel:Nat} {cs:List Value} {x:DataW H × List MemPlace},
  DataW.trod enc P w base spare held fuel t cs=some x->∃ a:α,d.K w a cs∧G a
variable {P:Program} {t:TypeId}
theorem add_add (a:Addr) (x i:Nat):(a.add x).add i=a.add (x+i):=by
 unfold Addr.add
 by_cases hx:x=0
 ·subst hx
  simp
 ·by_cases hi:i=0
  ·subst hi
   simp
  ·simp [hx,hi,Nat.add_assoc]
theorem cells_read {w:World} {base:Nat} {a:Addr} {x n:Nat} {cs:List Value} (h:w.cells? base (a.add x) n=some cs) (i:Nat) (u:Value) (hu:cs[i]?=some u):w.cell? (a.add (x+i))=some u:=by
 unfold World.cells? at h
 split at h
 ·have hl:cs.length=n:=by simpa using mapM_some_length h
  have hi:i < n:=by
   rw [← hl]
   exact (List.getElem?_eq_some_iff.1 hu).1
  have hg:=mapM_some_get h i i (by simp [hi])
  rw [hu,add_add] at hg
  exact hg
 ·exact absurd h (by simp)
theorem family {α:Type} {p:Nat->α->Prop} (n:Nat) (h:∀ i,i < n->∃ x,p i x):∃ xs:List α,xs.length=n∧∀ i x,xs[i]?=some x->p i x:=by
 induction n with
 | zero=>exact ⟨[],rfl,fun i x hx=>by simp at hx⟩
 | succ n ih =>
  obtain ⟨xs,h1,h2⟩:=ih (fun i hi=>h i (by omega))
  obtain ⟨y,hy⟩:=h n (by omega)
  refine ⟨xs ++ [y],by simp [h1],fun i x hx=>?_⟩
  by_cases hi:i < xs.length
  ·rw [List.getElem?_append_left hi] at hx
   exact h2 i x hx
  ·rw [List.getElem?_append_right (by omega)] at hx
   have hz:i - xs.length=0:=by
    rcases Nat.eq_zero_or_pos (i - xs.length) with hz|hz
    ·exact hz
    ·rw [List.getElem?_eq_none (by simp;omega)] at hx
     exact absurd hx (by simp)
   rw [hz] at hx
   have hxy:y=x:=by simpa using hx
   have hin:i=n:=by omega
   rw [← hxy,hin]
   exact hy
theorem opens_int {k:IntKind} (ht:P.underlying t=some (.int k)):Opens P (Kd.int k) t (fun n=>(Lit.int k n).wf=true):=by
 intro H enc w base spare held fuel cs x h
 obtain ⟨n,rfl,_,hw⟩:=DataW.trod_int ht h
 exact ⟨n,rfl,hw⟩
theorem opens_slice {α:Type} {d:Kd α} {G:α->Prop} {e:TypeId} (ht:P.underlying t=some (.slice e)) (hc:P.cellsOf e=d.sz) (h0:Opens P d e G) :
  Opens P (Kd.slice e d) t (fun l=>l.length≤9223372036854775807∧∀ x ∈ l,G x):=by
 intro H enc w base spare held fuel cs x h
 rcases Go.Deep.open_slice ht h with ⟨rfl,_⟩|⟨a,len,cap,m,n,D,Pl,rfl,_,hl,hm,hmm,_,hel⟩
 ·exact ⟨[],⟨none,0,rfl,Nat.le_refl _,rfl,by simp,fun hp=>absurd hp (by simp)⟩,by simp,fun x hx=>absurd hx (by simp)⟩
 ·have hlm:len≤m:=by
   rw [hmm]
   split
   ·exact hl
   ·exact Nat.le_refl _
  have hall:∀ i,i < len->∃ x:α,(∃ cs',w.cells? base (a.add (i * P.cellsOf e)) (P.cellsOf e)=some cs'∧d.K w x cs')∧G x:=by
   intro i hi
   obtain ⟨cs',h1,h2⟩:=hel i (by omega)
   obtain ⟨x,hk,hg⟩:=h0 h2
   exact ⟨x,⟨cs',h1,hk⟩,hg⟩
  have hlen:len≤9223372036854775807:=by simp only [maxLen] at hm;omega
  obtain ⟨xs,h1,h2⟩:=family len hall
  refine ⟨xs,⟨some a,cap,by rw [h1],by omega,rfl,by omega,fun _=>⟨a,rfl,fun j p hj=>?_⟩⟩,by omega,fun x hx=>?_⟩
  ·obtain ⟨⟨cs',hc1,hk⟩,_⟩:=h2 j p hj
   refine ⟨cs',d.K_len hk,hk,fun i u hu=>?_⟩
   rw [hc] at hc1
   exact cells_read hc1 i u hu
  ·obtain ⟨i,hi⟩:=List.getElem?_of_mem hx
   exact (h2 i x hi).2
end
end Go.Proofs.YtnlndmoecljicaaGreat.XO
end
section
namespace Go.Proofs.YtnlndmoecljicaaGreat
open Go.Proofs.YtnlndmoecljicaaGreatW.PrintLast Go.Proofs.YtnlndmoecljicaaGreatW.PrintMore Go.Proofs.YtnlndmoecljicaaGreatW.PrintWords Go.RowKit
theorem bw_ {w w1 w2:World} (h:Aside0 (Below w.heap.size w w1)) (g:Below w.heap.size w w1->Below w.heap.size w w2:=by intro h_;repeat (first|(with_reducible first|exact h_|apply below_alloc|apply pw_below_drewN|apply below_drew1|refine below_set ?_ (Aside0.out (by assumption)))|exact h_)):Below w.heap.size w w2:=g h.out
theorem bs1_ {w w1 w2:World} {g1:Nat} (h:Aside0 (Below w.heap.size w w1)) (e1:w.heap.size≤g1) (g:Below w.heap.size w w1->w.heap.size≤g1->Below w.heap.size w w2:=by intro h_ e1_;repeat (first|(with_reducible first|exact h_|apply below_alloc|apply pw_below_drewN|apply below_drew1|refine below_set ?_ e1_)|exact h_)):Below w.heap.size w w2:=g h.out e1
theorem bs2_ {w w1 w2:World} {g1 g2:Nat} (h:Aside0 (Below w.heap.size w w1)) (e1:w.heap.size≤g1) (e2:w.heap.size≤g2) (g:Below w.heap.size w w1->w.heap.size≤g1->w.heap.size≤g2->Below w.heap.size w w2:=by intro h_ e1_ e2_;repeat (first|(with_reducible first|exact h_|apply below_alloc|apply pw_below_drewN|apply below_drew1|refine below_set ?_ e1_|refine below_set ?_ e2_)|exact h_)):Below w.heap.size w w2:=g h.out e1 e2
theorem bs3_ {w w1 w2:World} {g1 g2 g3:Nat} (h:Aside0 (Below w.heap.size w w1)) (e1:w.heap.size≤g1) (e2:w.heap.size≤g2) (e3:w.heap.size≤g3) (g:Below w.heap.size w w1->w.heap.size≤g1->w.heap.size≤g2->w.heap.size≤g3->Below w.heap.size w w2:=by intro h_ e1_ e2_ e3_;repeat (first|(with_reducible first|exact h_|apply below_alloc|apply pw_below_drewN|apply below_drew1|refine below_set ?_ e1_|refine below_set ?_ e2_|refine below_set ?_ e3_)|exact h_)):Below w.heap.size w w2:=g h.out e1 e2 e3
theorem kr_ {α:Type} {d:Kd α} {e:Nat} {w w':World} {b:Nat} {ok:Nat->Prop} {v:Value} {xs:List α} (h:d.R e w b ok v xs) (g:d.R e w b ok v xs->d.R e w' b ok v xs:=by intro h_;(with_reducible repeat (first|apply Kd.R_alloc|apply Kd.R_drewN|apply Kd.R_drew));exact h_):d.R e w' b ok v xs:=g h
theorem cr_ {α:Type} {d:Kd α} {w w':World} {A:Option Addr} {n:Nat} {xs:List α} (h:d.C w A n xs) (g:d.C w A n xs->d.C w' A n xs:=by intro h_;repeat (first|exact h_|(with_reducible refine Kd.C_alloc ?_ _)|(with_reducible refine Kd.C_drewN ?_ _)|(with_reducible refine Kd.C_drew ?_))):d.C w' A n xs:=g h
theorem kb_ {w w':World} {g:Nat} {o:Obj} (h:w.heap[g]?=some o) (f:w.heap[g]?=some o->w'.heap[g]?=some o:=by intro h_;(with_reducible repeat (first|refine blk_drewN ?_ _|refine blk_drew ?_|refine blk_alloc ?_ _));exact h_):w'.heap[g]?=some o:=f h
section
variable {P:Program} {ops:Array Oper} {rest:List Oper} {o:Oper} {a:Act} {Q:Exit->Act->World->Prop} {W:World}
theorem gk_ (f:FuncId) {az:Array Operand} {ts:Array TypeId} (h:wpList P ops Q (o :: rest) a W) (_ho:o.op = .call { callee:=.value (.func f),args:=az,argTypes:=ts }:=by exact rfl):wpList P ops Q (o :: rest) a W:=h
theorem gl_ (N:Tmp) {f:FuncId} {fn:Func} {az:Array Operand} {ts:Array TypeId} (hf:P.funcs[f]?=some fn) (args:Array Value)
 (h:Calls P f args W fun e w'=>∃ v,e = .returned v∧wpList P ops Q rest (a.put (some N) v) w')
 (hd:o.dst=some N:=by exact rfl) (hg:o.guard=none:=by exact rfl) (hname:(fn.name == "runtime.NumGoroutine")=false:=by kernel_rfl) (hb:fn.body.isSome=true:=by exact rfl)
 (hop:o.op = .call { callee:=.value (.func f),args:=az,argTypes:=ts }:=by exact rfl)
 (hargs:az.map a.eval=args:=by (try simp only [List.map_toArray,List.map_cons,List.map_nil]);first|done|rfl|(simp only [List.length_drop,List.length_take];rfl)):wpList P ops Q (o :: rest) a W:=goesL_ (some N) hd hg hf hname hb args hop hargs h
theorem gm_ {x y:Int} (hx:x=y) (N:Tmp) {f:FuncId} {fn:Func} {az:Array Operand} {ts:Array TypeId} (hf:P.funcs[f]?=some fn) (args:Array Value)
 (h:Calls P f args W fun e w'=>∃ v,e = .returned v∧wpList P ops Q rest (a.put (some N) v) w')
 (hd:o.dst=some N:=by exact rfl) (hg:o.guard=none:=by exact rfl) (hname:(fn.name == "runtime.NumGoroutine")=false:=by kernel_rfl) (hb:fn.body.isSome=true:=by exact rfl)
 (hop:o.op = .call { callee:=.value (.func f),args:=az,argTypes:=ts }:=by exact rfl)
 (hargs:x=y->az.map a.eval=args:=by intro hx_;(try simp only [List.map_toArray,List.map_cons,List.map_nil]);first|done|(simp only [hx_];rfl)|rfl|(simp only [List.length_drop,List.length_take];rfl)):wpList P ops Q (o :: rest) a W:=goesL_ (some N) hd hg hf hname hb args hop (hargs hx) h
end
section
variable {P:Program} {ops:Array Oper} {rest:List Oper} {o:Oper} {a:Act} {Q:Exit->Act->World->Prop} {α:Type}
theorem rl_ (d:Kd α) (e:Nat) (N:Tmp) (xs:List α) (inner:List Value) {W:World}
 (h:∀ v1 w1,d.R e w1 W.heap.size (fun _=>True) v1 xs->Below W.heap.size W w1->W.grownBy w1 none->(∃ b,v1.ownBlock=some b∧W.heap.size≤b)->wpList P ops Q rest (a.put o.dst v1) w1)
 (hd:o.dst=some N:=by exact rfl) (hg:o.guard=none:=by exact rfl)
 (hr:(execOp a.eval o).run P W = .ok (.value (.slice (some ⟨W.heap.size,0,none⟩) xs.length xs.length)) (W.alloc (.cells inner.toArray e)):=by first|(go_simp;done)|(go_simp;rfl))
 (hp:Reps (d.M W W.heap.size (fun _=>True)) d.sz xs inner:=by repeat (first|exact Reps.none _ _|refine Reps.one (show Kd.M _ _ _ _ _ _ from rfl) ?_)) (hm:xs.length≤9223372036854775807:=by simp):wpList P ops Q (o :: rest) a W :=
 Kd.R_lit d W.heap.size e hg hd hr hp (fun _ hk=>hk) trivial (Below.refl _ _) (Nat.le_refl _) hm h
end
section
variable {P:Program} {ops:Array Oper} {Q:Exit->Act->World->Prop} {md:Region.Mode} {S:World->Prop} {ds:List Nat} {oi:Oper} {v:Value} {fuel:Nat} {l:Array Bool} {a a':Act} {w:World} {T:Bool × List (List Nat × List Nat)} {B:List Nat}
def lz_ (n m:Nat):Array Bool:=((List.range n).map fun i=>Nat.testBit m i).toArray
theorem pt_ (i:Nat) (N:Tmp) {n:Nat} {m0:Nat} (m:Nat) (h:wpAnyLast P md ops Q S ds fuel (lz_ n m) a' w)
 (hi:ops[i]?=some oi:=by exact rfl) (hN:oi.dst=some N:=by exact rfl) (hc:anyB md ops (lz_ n m0) (lz_ n m) i=true:=by exact any_of HT_.out (by kernel_rfl)) (hQ:∀ c a w,Q (.panic c) (a.put oi.dst v) w->Q (.panic c) a w:=by exact fun _ _ _ h=>h)
 (hy:Yields P ops oi v a:=by exact Or.inl ⟨by rfl,by intro w';go_simp;with_reducible rfl⟩) (ha:a.put (some N) v=a':=by simp only [Act.put,List.setIfInBounds_toArray,List.set_cons_zero,List.set_cons_succ,i64_w,i32_w];rfl):wpAnyLast P md ops Q S ds (fuel+1) (lz_ n m0) a w:=pure_ _ hi hN hc hQ hy ha h
theorem pts_ (i:Nat) (N:Tmp) {n:Nat} {m0:Nat} (m:Nat) (h:wpAnyLast P md ops Q S ds fuel (lz_ n m) a' w)
 (hi:ops[i]?=some oi:=by exact rfl) (hN:oi.dst=some N:=by exact rfl) (hc:anyB md ops (lz_ n m0) (lz_ n m) i=true:=by exact any_of HT_.out (by kernel_rfl)) (hQ:∀ c a w,Q (.panic c) (a.put oi.dst v) w->Q (.panic c) a w:=by exact fun _ _ _ h=>h)
 (hy:Yields P ops oi v a:=by exact Or.inl ⟨by rfl,by intro w';go_simp;with_reducible rfl⟩) (ha:a.put (some N) v=a':=by simp only [Act.put,sT,sZ,sS,i64_w,i32_w];rfl):wpAnyLast P md ops Q S ds (fuel+1) (lz_ n m0) a w:=pure_ _ hi hN hc hQ hy ha h
theorem pk_ (i:Nat) (N:Tmp) {n:Nat} {m0:Nat} (m:Nat) (h:wpAnyLast P md ops Q S ds fuel (lz_ n m) a' w)
 (hi:ops[i]?=some oi:=by exact rfl) (hN:oi.dst=some N:=by exact rfl) (hc:anyB md ops (lz_ n m0) (lz_ n m) i=true:=by kernel_rfl) (hQ:∀ c a w,Q (.panic c) (a.put oi.dst v) w->Q (.panic c) a w:=by exact fun _ _ _ h=>h)
 (hy:Yields P ops oi v a:=by exact Or.inl ⟨by rfl,by intro w';go_simp;with_reducible rfl⟩) (ha:a.put (some N) v=a':=by simp only [Act.put,List.setIfInBounds_toArray,List.set_cons_zero,List.set_cons_succ,i64_w,i32_w];rfl):wpAnyLast P md ops Q S ds (fuel+1) (lz_ n m0) a w:=pure_ _ hi hN hc hQ hy ha h
theorem ut_ (i:Nat) (N:Tmp) {n:Nat} {m0:Nat} (m:Nat) (h:wpAnyLast P md ops Q S ds fuel (lz_ n m) a' w)
 (hi:ops[i]?=some oi:=by exact rfl) (hN:oi.dst=some N:=by exact rfl) (hc:anyB md ops (lz_ n m0) (lz_ n m) i=true:=by exact any_of HT_.out (by kernel_rfl)) (hQ:∀ c a w,Q (.panic c) (a.put oi.dst undef) w->Q (.panic c) a w:=by exact fun _ _ _ h=>h)
 (hy:Yields P ops oi undef a:=by exact Or.inr ⟨by rfl,rfl⟩) (ha:a.put (some N) undef=a':=by simp only [Act.put,List.setIfInBounds_toArray,List.set_cons_zero,List.set_cons_succ,i64_w,i32_w];rfl):wpAnyLast P md ops Q S ds (fuel+1) (lz_ n m0) a w:=pure_ _ hi hN hc hQ hy ha h
theorem uts_ (i:Nat) (N:Tmp) {n:Nat} {m0:Nat} (m:Nat) (h:wpAnyLast P md ops Q S ds fuel (lz_ n m) a' w)
 (hi:ops[i]?=some oi:=by exact rfl) (hN:oi.dst=some N:=by exact rfl) (hc:anyB md ops (lz_ n m0) (lz_ n m) i=true:=by exact any_of HT_.out (by kernel_rfl)) (hQ:∀ c a w,Q (.panic c) (a.put oi.dst undef) w->Q (.panic c) a w:=by exact fun _ _ _ h=>h)
 (hy:Yields P ops oi undef a:=by exact Or.inr ⟨by rfl,rfl⟩) (ha:a.put (some N) undef=a':=by simp only [Act.put,sT,sZ,sS,i64_w,i32_w];rfl):wpAnyLast P md ops Q S ds (fuel+1) (lz_ n m0) a w:=pure_ _ hi hN hc hQ hy ha h
theorem tt_ (i:Nat) (N:Tmp) {n:Nat} {m0:Nat} (m:Nat) (h:wpAnyLast P md ops Q S ds fuel (lz_ n m) a' w)
 (hi:ops[i]?=some oi:=by exact rfl) (hN:oi.dst=some N:=by exact rfl) (hc:takeB md ops ds (lz_ n m0) (lz_ n m) i=true:=by exact take_ofW HT_.out HW_.out (by kernel_rfl)) (hQ:∀ c a w,Q (.panic c) (a.put oi.dst v) w->Q (.panic c) a w:=by exact fun _ _ _ h=>h)
 (hy:YieldsIf P ops S oi v a:=by exact Or.inl ⟨by rfl,by intro w' hs_;(repeat (have s_:=And.left hs_;replace hs_:=And.right hs_));go_simp;with_reducible rfl⟩) (hS:S w:=by exact hHeld) (ha:a.put (some N) v=a':=by simp only [Act.put,List.setIfInBounds_toArray,List.set_cons_zero,List.set_cons_succ,i64_w,i32_w];rfl):wpAnyLast P md ops Q S ds (fuel+1) (lz_ n m0) a w:=take_ _ hi hN hc hQ hy hS ha h
theorem tts_ (i:Nat) (N:Tmp) {n:Nat} {m0:Nat} (m:Nat) (h:wpAnyLast P md ops Q S ds fuel (lz_ n m) a' w)
 (hi:ops[i]?=some oi:=by exact rfl) (hN:oi.dst=some N:=by exact rfl) (hc:takeB md ops ds (lz_ n m0) (lz_ n m) i=true:=by exact take_ofW HT_.out HW_.out (by kernel_rfl)) (hQ:∀ c a w,Q (.panic c) (a.put oi.dst v) w->Q (.panic c) a w:=by exact fun _ _ _ h=>h)
 (hy:YieldsIf P ops S oi v a:=by exact Or.inl ⟨by rfl,by intro w' hs_;(repeat (have s_:=And.left hs_;replace hs_:=And.right hs_));go_simp;with_reducible rfl⟩) (hS:S w:=by exact hHeld) (ha:a.put (some N) v=a':=by simp only [Act.put,sT,sZ,sS,i64_w,i32_w];rfl):wpAnyLast P md ops Q S ds (fuel+1) (lz_ n m0) a w:=take_ _ hi hN hc hQ hy hS ha h
theorem tk_ (i:Nat) (N:Tmp) {n:Nat} {m0:Nat} (m:Nat) (h:wpAnyLast P md ops Q S ds fuel (lz_ n m) a' w)
 (hi:ops[i]?=some oi:=by exact rfl) (hN:oi.dst=some N:=by exact rfl) (hc:takeB md ops ds (lz_ n m0) (lz_ n m) i=true:=by kernel_rfl) (hQ:∀ c a w,Q (.panic c) (a.put oi.dst v) w->Q (.panic c) a w:=by exact fun _ _ _ h=>h)
 (hy:YieldsIf P ops S oi v a:=by exact Or.inl ⟨by rfl,by intro w' hs_;(repeat (have s_:=And.left hs_;replace hs_:=And.right hs_));go_simp;with_reducible rfl⟩) (hS:S w:=by exact hHeld) (ha:a.put (some N) v=a':=by simp only [Act.put,List.setIfInBounds_toArray,List.set_cons_zero,List.set_cons_succ,i64_w,i32_w];rfl):wpAnyLast P md ops Q S ds (fuel+1) (lz_ n m0) a w:=take_ _ hi hN hc hQ hy hS ha h
end
section
variable {P:Program} {ops:Array Oper} {rest:List Oper} {o:Oper} {a:Act} {Q:Exit->Act->World->Prop} {W:World}
theorem gd_ (N:Tmp) (h:wpList P ops Q (o :: rest) a W) (_ho:o.dst=some N:=by exact rfl):wpList P ops Q (o :: rest) a W:=h
theorem bx_ (N:Tmp) (t:TypeId) (cs:Array Value) (h:∀ g,g=W.heap.size->∀ w1,w1.heap[g]?=some (.cells cs t (0,0))->Below W.heap.size W w1->wpList P ops Q rest (a.put o.dst (.pointer (some ⟨g,0,none⟩))) w1)
 (hd:o.dst=some N:=by exact rfl) (hg:o.guard=none:=by exact rfl) (hr:(execOp a.eval o).run P W = .ok (.value (.pointer (some ⟨W.heap.size,0,none⟩))) (W.alloc (.cells cs t (0,0))):=by first|(go_simp;done)|(go_simp;rfl)):wpList P ops Q (o :: rest) a W:=box_event hg hd hr h
end
theorem gz_ {g n m:Nat} (e:g=n) (h:m≤n):m≤g:=e ▸ h
theorem nl_ {W:World} {g g':Nat} {o:Obj} (e:g'=W.heap.size) (h:W.heap[g]?=some o):g ≠ g':=by rw [e];exact Nat.ne_of_lt (blk_lt h)
theorem ng_ {W:World} {g g':Nat} {o:Obj} (e:g'=W.heap.size) (h:W.heap[g]?=some o):g' ≠ g:=(nl_ e h).symm
theorem sb_ {α β:Type} (x:α) {f:α->Option β} {r:β} (h:(some x).bind f=some r):∃ y,Aside0 (y=x)∧f y=some r:=⟨x,⟨rfl⟩,h⟩
theorem e1_ {p:Prop} (h:p:=by first|rfl|(simp;done)|(simp [*];done)):p:=h
theorem e2_ {p:Prop} (h:p:=by first|rfl|(simp [errW_none,errW_some] <;> rfl)|(simp [*,errW_none,errW_some] <;> rfl)):p:=h
theorem dw_ {w w':World} (h:Drawn0 w w':=by repeat (first|exact Drawn0.refl _|apply Drawn0.step)):Drawn0 w w':=h
theorem le_ {a b:Nat} (h:a≤b:=by first|omega|exact Nat.le_refl _):a≤b:=h
theorem as_ {p:Prop} (h:p:=by first|(with_reducible assumption)|assumption):p:=h
section
variable {w:World} {g:Nat} {t:TypeId} {c0 c1 c2 c3 c4 c5 c6 c7 c8:Value} {l:List Value}
theorem bc0_ (h:w.heap[g]?=some (.cells (c0 :: l).toArray t (0,0))):w.cell? ⟨g,0,none⟩=some c0:=(blk_cell h 0).trans rfl
theorem bc1_ (h:w.heap[g]?=some (.cells (c0 :: c1 :: l).toArray t (0,0))):w.cell? ⟨g,1,none⟩=some c1:=(blk_cell h 1).trans rfl
theorem bc2_ (h:w.heap[g]?=some (.cells (c0 :: c1 :: c2 :: l).toArray t (0,0))):w.cell? ⟨g,2,none⟩=some c2:=(blk_cell h 2).trans rfl
theorem bc3_ (h:w.heap[g]?=some (.cells (c0 :: c1 :: c2 :: c3 :: l).toArray t (0,0))):w.cell? ⟨g,3,none⟩=some c3:=(blk_cell h 3).trans rfl
theorem bc4_ (h:w.heap[g]?=some (.cells (c0 :: c1 :: c2 :: c3 :: c4 :: l).toArray t (0,0))):w.cell? ⟨g,4,none⟩=some c4:=(blk_cell h 4).trans rfl
theorem bc5_ (h:w.heap[g]?=some (.cells (c0 :: c1 :: c2 :: c3 :: c4 :: c5 :: l).toArray t (0,0))):w.cell? ⟨g,5,none⟩=some c5:=(blk_cell h 5).trans rfl
theorem bc6_ (h:w.heap[g]?=some (.cells (c0 :: c1 :: c2 :: c3 :: c4 :: c5 :: c6 :: l).toArray t (0,0))):w.cell? ⟨g,6,none⟩=some c6:=(blk_cell h 6).trans rfl
theorem bc7_ (h:w.heap[g]?=some (.cells (c0 :: c1 :: c2 :: c3 :: c4 :: c5 :: c6 :: c7 :: l).toArray t (0,0))):w.cell? ⟨g,7,none⟩=some c7:=(blk_cell h 7).trans rfl
end
section
variable {P:Program} {ops:Array Oper} {Q:Exit->Act->World->Prop} {md:Region.Mode} {S:World->Prop} {ds:List Nat}
theorem ge_ {oi:Oper} {N:Option Tmp} {a:Act} {w:World} {K:Act->World->Prop} {f:FuncId} {fn:Func} {az:Array Operand} {ts:Array TypeId} (hf:P.funcs[f]?=some fn) (args:Array Value)
 (h:Calls P f args w fun e w'=>∃ v,e = .returned v∧K (a.put N v) w')
 (hname:(fn.name == "runtime.NumGoroutine")=false:=by kernel_rfl) (hb:fn.body.isSome=true:=by exact rfl) (hw:Region.wanted oi (yielded ops a.tmps)=true:=by rfl) (hN:oi.dst=N:=by exact rfl)
 (hop:oi.op = .call { callee:=.value (.func f),args:=az,argTypes:=ts }:=by exact rfl) (hargs:az.map a.eval=args:=by (try simp only [List.map_toArray,List.map_cons,List.map_nil]);first|done|rfl|(simp only [List.length_drop,List.length_take];rfl)):if Region.wanted oi (yielded ops a.tmps)=true then Oper.wp P oi a w K Q else K (a.put N undef) w:=goes_ hf hname hb args hw hN hop hargs h
theorem gf_ {oi:Oper} {N:Option Tmp} {a:Act} {w:World} {K:Act->World->Prop} {R:Ending->World->Prop} {f:FuncId} {fn:Func} {args:Array Value} {az:Array Operand} {ts:Array TypeId} (hf:P.funcs[f]?=some fn) (hc:Calls P f args w R)
 (h:∀ e w',R e w'->∃ v,e = .returned v∧K (a.put N v) w')
 (hname:(fn.name == "runtime.NumGoroutine")=false:=by kernel_rfl) (hb:fn.body.isSome=true:=by exact rfl) (hw:Region.wanted oi (yielded ops a.tmps)=true:=by rfl) (hN:oi.dst=N:=by exact rfl)
 (hop:oi.op = .call { callee:=.value (.func f),args:=az,argTypes:=ts }:=by exact rfl) (hargs:az.map a.eval=args:=by (try simp only [List.map_toArray,List.map_cons,List.map_nil]);first|done|rfl|(simp only [List.length_drop,List.length_take];rfl)):if Region.wanted oi (yielded ops a.tmps)=true then Oper.wp P oi a w K Q else K (a.put N undef) w:=goes_ hf hname hb args hw hN hop hargs (hc.mono h)
theorem no_ (N:Tmp) {fuel:Nat} {l:Array Bool} {d:Option Tmp} {v:Value} {b a':Act} {w:World} (h:wpAnyLast P md ops Q S ds fuel l a' w) (hd:d=some N:=by exact rfl) (ha:b.put (some N) v=a':=by simp only [Act.put,List.setIfInBounds_toArray,List.set_cons_zero,List.set_cons_succ,i64_w,i32_w];rfl):wpAnyLast P md ops Q S ds fuel l (b.put d v) w:=by subst hd;exact norm_ ha h
theorem nos_ (N:Tmp) {fuel:Nat} {l:Array Bool} {d:Option Tmp} {v:Value} {b a':Act} {w:World} (h:wpAnyLast P md ops Q S ds fuel l a' w) (hd:d=some N:=by exact rfl) (ha:b.put (some N) v=a':=by simp only [Act.put,sT,sZ,sS,i64_w,i32_w];rfl):wpAnyLast P md ops Q S ds fuel l (b.put d v) w:=by subst hd;exact norm_ ha h
theorem nj_ {fuel:Nat} {l:Array Bool} {a a':Act} {w:World} (h:wpAnyLast P md ops Q S ds fuel l a' w) (ha:a=a':=by first|(simp only [putAll,Act.put,List.setIfInBounds_toArray,List.set_cons_zero,List.set_cons_succ];done)|(simp only [putAll,Act.put,List.setIfInBounds_toArray,List.set_cons_zero,List.set_cons_succ];rfl)):wpAnyLast P md ops Q S ds fuel l a w:=norm_ ha h
theorem njs_ {fuel:Nat} {l:Array Bool} {a a':Act} {w:World} (h:wpAnyLast P md ops Q S ds fuel l a' w) (ha:a=a':=by first|(simp only [putAll,Act.put,sT,sZ,sS,List.getD_cons_zero,List.getD_cons_succ];done)|(simp only [putAll,Act.put,sT,sZ,sS,List.getD_cons_zero,List.getD_cons_succ];rfl)):wpAnyLast P md ops Q S ds fuel l a w:=norm_ ha h
theorem bz_ {o:Oper} {a:Act} {W:World} {Kc:Act->World->Prop} (N:Tmp) (t:TypeId) (cs:Array Value)
 (h:∀ g,g=W.heap.size->∀ w1,w1.heap[g]?=some (.cells cs t (0,0))->Below W.heap.size W w1->Kc (a.put o.dst (.pointer (some ⟨g,0,none⟩))) w1)
 (hd:o.dst=some N:=by exact rfl) (hw:Region.wanted o (yielded ops a.tmps)=true:=by rfl) (hr:(execOp a.eval o).run P W = .ok (.value (.pointer (some ⟨W.heap.size,0,none⟩))) (W.alloc (.cells cs t (0,0))):=by first|(go_simp;done)|(go_simp;rfl)):if Region.wanted o (yielded ops a.tmps)=true then Oper.wp P o a W Kc Q else Kc (a.put o.dst undef) W:=box_step hw hd hr h
end
section
variable {P:Program} {ops:Array Oper} {rest:List Oper} {o:Oper} {a:Act} {Q:Exit->Act->World->Prop} {W:World} {R:Ending->World->Prop}
theorem gq_ (f:FuncId) (N:Tmp) {az:Array Operand} {ts:Array TypeId} (h:wpList P ops Q (o :: rest) a W) (_ho:o.op = .call { callee:=.value (.func f),args:=az,argTypes:=ts }:=by exact rfl) (_hd:o.dst=some N:=by exact rfl):wpList P ops Q (o :: rest) a W:=h
theorem gc_ (N:Tmp) {f:FuncId} {fn:Func} {args:Array Value} {az:Array Operand} {ts:Array TypeId} (hf:P.funcs[f]?=some fn) (hc:Calls P f args W R)
 (h:∀ e w',R e w'->∃ v,e = .returned v∧wpList P ops Q rest (a.put (some N) v) w')
 (hd:o.dst=some N:=by exact rfl) (hg:o.guard=none:=by exact rfl) (hname:(fn.name == "runtime.NumGoroutine")=false:=by kernel_rfl) (hb:fn.body.isSome=true:=by exact rfl)
 (hop:o.op = .call { callee:=.value (.func f),args:=az,argTypes:=ts }:=by exact rfl) (hargs:az.map a.eval=args:=by (try simp only [List.map_toArray,List.map_cons,List.map_nil]);first|done|rfl|(simp only [List.length_drop,List.length_take];rfl)):wpList P ops Q (o :: rest) a W:=goesL_ (some N) hd hg hf hname hb args hop hargs (hc.mono h)
end
theorem ss_ {w w1 w2 w3:World} (h:Aside0 (Below w.heap.size w w1)) (hb:Below w2.heap.size w2 w3) (g:Below w.heap.size w w1->Below w.heap.size w w2:=by intro h_;repeat (first|(with_reducible first|exact h_|apply below_alloc|apply pw_below_drewN|apply below_drew1|refine below_set ?_ (Aside0.out (by assumption)))|exact h_)):Aside0 (Below w.heap.size w w3):=⟨below_step (g h.out) hb⟩
theorem sz_ {w w1 w2:World} (h:Aside0 (Below w.heap.size w w1)) (g:Below w.heap.size w w1->Below w.heap.size w w2:=by intro h_;repeat (first|(with_reducible first|exact h_|apply below_alloc|apply pw_below_drewN|apply below_drew1|refine below_set ?_ (Aside0.out (by assumption)))|exact h_)):w.heap.size≤w2.heap.size:=below_size (g h.out)
theorem gg_ {w w1 w2:World} {b:Nat} (hg:b=w2.heap.size) (h:Aside0 (Below w.heap.size w w1)) (g:Below w.heap.size w w1->Below w.heap.size w w2:=by intro h_;repeat (first|(with_reducible first|exact h_|apply below_alloc|apply pw_below_drewN|apply below_drew1|refine below_set ?_ (Aside0.out (by assumption)))|exact h_)):Aside0 (w.heap.size≤b):=⟨gz_ hg (below_size (g h.out))⟩
section
variable {w W w' w1:World} {g g':Nat} {o o':Obj}
theorem bf_ {p:Addr} {u:Value} (hp:g ≠ p.block) (h:w.heap[g]?=some o):(w.setCell p u).heap[g]?=some o:=(Below.heap_setCell w p u g hp).trans h
theorem kq_ (h:Aside0 (w.heap[g]?=some o)) (f:w.heap[g]?=some o->w'.heap[g]?=some o':=by intro h_;(iterate 16 (with_reducible first|exact h_|refine blk_drewN ?_ _|refine blk_drew ?_|refine blk_alloc ?_ _|(apply bf_;exact Aside0.out (by assumption))|apply blk_put|skip));all_goals rfl):w'.heap[g]?=some o':=f h.out
theorem kl_ (h:Aside0 (w.heap[g]?=some o)) (hb:Below W.heap.size W w') (f:w.heap[g]?=some o->W.heap[g]?=some o:=by intro h_;(with_reducible repeat (first|refine blk_drewN ?_ _|refine blk_drew ?_|refine blk_alloc ?_ _));exact h_):Aside0 (w'.heap[g]?=some o):=⟨blk_below (f h.out) hb⟩
theorem kp_ (h:Aside0 (w.heap[g]?=some o)) (hb:Below W.heap.size W w') (f:w.heap[g]?=some o->W.heap[g]?=some o':=by intro h_;(iterate 16 (with_reducible first|exact h_|refine blk_drewN ?_ _|refine blk_drew ?_|refine blk_alloc ?_ _|(apply bf_;exact Aside0.out (by assumption))|apply blk_put|skip));all_goals (simp only [List.setIfInBounds_toArray,List.set_cons_zero,List.set_cons_succ];rfl)):Aside0 (w'.heap[g]?=some o'):=⟨blk_below (f h.out) hb⟩
theorem nla_ (e:g'=W.heap.size) (h:Aside0 (w.heap[g]?=some o)) (f:w.heap[g]?=some o->W.heap[g]?=some o:=by intro h_;(with_reducible repeat (first|refine blk_drewN ?_ _|refine blk_drew ?_|refine blk_alloc ?_ _));exact h_):Aside0 (g ≠ g'):=⟨nl_ e (f h.out)⟩
theorem nga_ (e:g'=W.heap.size) (h:Aside0 (w.heap[g]?=some o)) (f:w.heap[g]?=some o->W.heap[g]?=some o:=by intro h_;(with_reducible repeat (first|refine blk_drewN ?_ _|refine blk_drew ?_|refine blk_alloc ?_ _));exact h_):Aside0 (g' ≠ g):=⟨ng_ e (f h.out)⟩
end
section
variable {α β:Type} {d:Kd α} {d':Kd β} {e e' base g n c:Nat} {ok ok':Nat->Prop} {w W w' w1:World} {v u:Value} {xs:List α} {ys:List β} {A:Option Addr} {t:TypeId} {cs cs':Array Value} {row:Option Nat}
theorem kg_ (h:Aside0 (w.heap[g]?=some (.cells cs t (0,0)))) (k:Aside0 (d.R e w base ok v xs)) (hg:W.grownBy w' v.ownBlock) (hne:e ≠ t:=by decide) (f:w.heap[g]?=some (.cells cs t (0,0))->W.heap[g]?=some (.cells cs t (0,0)):=by intro h_;(with_reducible repeat (first|refine blk_drewN ?_ _|refine blk_drew ?_|refine blk_alloc ?_ _));exact h_):Aside0 (w'.heap[g]?=some (.cells cs t (0,0))):=⟨blk_grown (f h.out) hg (Kd.R_ne k.out h.out hne)⟩
theorem kgp_ (h:Aside0 (w.heap[g]?=some (.cells cs t (0,0)))) (k:Aside0 (d.R e w base ok v xs)) (hg:W.grownBy w' v.ownBlock) (hne:e ≠ t:=by decide) (f:w.heap[g]?=some (.cells cs t (0,0))->W.heap[g]?=some (.cells cs' t (0,0)):=by intro h_;(iterate 16 (with_reducible first|exact h_|refine blk_drewN ?_ _|refine blk_drew ?_|refine blk_alloc ?_ _|(apply bf_;exact Aside0.out (by assumption))|apply blk_put|skip));all_goals (simp only [List.setIfInBounds_toArray,List.set_cons_zero,List.set_cons_succ];rfl)):Aside0 (w'.heap[g]?=some (.cells cs' t (0,0))):=⟨blk_grown (f h.out) hg (Kd.R_ne k.out h.out hne)⟩
theorem kf_ (h:Aside0 (d.R e w base ok v xs)) (k:Aside0 (w.heap[g]?=some (.cells cs t (0,0)))) (hne:∀ q,q ∈ e :: d.E->q ≠ t:=by decide) (f:d.R e w base (fun k=>ok k∧k ≠ g) v xs->d.R e W base (fun k=>ok k∧k ≠ g) v xs:=by intro h_;repeat (with_reducible first|exact h_|apply Kd.R_alloc|apply Kd.R_drewN|apply Kd.R_drew|refine Kd.R_far ?_ (fun _ hk=>hk.2) _)):d.R e W base ok v xs:=Kd.R_mono (f (Kd.R_types h.out k.out hne)) (fun _ h_=>h_.1)
theorem lf_ (h:Aside0 (d.R e w base ok v xs)) (k:Aside0 (w.heap[g]?=some (.cells cs t (0,0)))) (hne:∀ q,q ∈ e :: d.E->q ≠ t:=by decide) (f:d.R e w base (fun k=>ok k∧k ≠ g) v xs->d.R e W base (fun k=>ok k∧k ≠ g) v xs:=by intro h_;repeat (with_reducible first|exact h_|apply Kd.R_alloc|apply Kd.R_drewN|apply Kd.R_drew|refine Kd.R_far ?_ (fun _ hk=>hk.2) _)):∀ k,v.ownBlock=some k->k < W.heap.size:=Kd.R_lt (f (Kd.R_types h.out k.out hne))
theorem lt_ (h:Aside0 (d.R e w base ok v xs)) (f:d.R e w base ok v xs->d.R e W base ok v xs:=by intro h_;(with_reducible repeat (first|apply Kd.R_alloc|apply Kd.R_drewN|apply Kd.R_drew));exact h_):∀ k,v.ownBlock=some k->k < W.heap.size:=Kd.R_lt (f h.out)
theorem rb_ (h:Aside0 (d.R e w base ok v xs)) (hb:Below W.heap.size W w1) (f:d.R e w base ok v xs->d.R e W base ok v xs:=by intro h_;(with_reducible repeat (first|apply Kd.R_alloc|apply Kd.R_drewN|apply Kd.R_drew));exact h_):Aside0 (d.R e w1 base ok v xs):=⟨Kd.R_below (f h.out) hb⟩
theorem rbf_ (h:Aside0 (d.R e w base ok v xs)) (k:Aside0 (w.heap[g]?=some (.cells cs t (0,0)))) (hb:Below W.heap.size W w1) (hne:∀ q,q ∈ e :: d.E->q ≠ t:=by decide) (f:d.R e w base (fun k=>ok k∧k ≠ g) v xs->d.R e W base (fun k=>ok k∧k ≠ g) v xs:=by intro h_;repeat (with_reducible first|exact h_|apply Kd.R_alloc|apply Kd.R_drewN|apply Kd.R_drew|refine Kd.R_far ?_ (fun _ hk=>hk.2) _)):Aside0 (d.R e w1 base ok v xs):=⟨Kd.R_below (kf_ h k hne f) hb⟩
theorem re_ {xs':List β} (h:Aside0 (d.R e w base ok u xs)) (ho:d'.R e' w1 W.heap.size ok' v xs') (hb:Below W.heap.size W w1) (f:d.R e w base ok u xs->d.R e W base ok u xs:=by intro h_;(with_reducible repeat (first|apply Kd.R_alloc|apply Kd.R_drewN|apply Kd.R_drew));exact h_):Aside0 (d.R e w1 base (fun k=>ok k∧some k ≠ v.ownBlock) u xs):=⟨Kd.R_elder' (f h.out) (Kd.R_base ho) hb⟩
theorem ref_ {xs':List β} (h:Aside0 (d.R e w base ok u xs)) (k:Aside0 (w.heap[g]?=some (.cells cs t (0,0)))) (ho:d'.R e' w1 W.heap.size ok' v xs') (hb:Below W.heap.size W w1) (hne:∀ q,q ∈ e :: d.E->q ≠ t:=by decide) (f:d.R e w base (fun k=>ok k∧k ≠ g) u xs->d.R e W base (fun k=>ok k∧k ≠ g) u xs:=by intro h_;repeat (with_reducible first|exact h_|apply Kd.R_alloc|apply Kd.R_drewN|apply Kd.R_drew|refine Kd.R_far ?_ (fun _ hk=>hk.2) _)):Aside0 (d.R e w1 base (fun k=>ok k∧some k ≠ v.ownBlock) u xs):=⟨Kd.R_elder' (kf_ h k hne f) (Kd.R_base ho) hb⟩
theorem cb_ (h:Aside0 (d.C w A n xs)) (hb:Aside0 (Below w.heap.size w w')) (f:d.C w' A n xs->d.C W A n xs:=by intro h_;repeat (first|exact h_|(with_reducible refine Kd.C_alloc ?_ _)|(with_reducible refine Kd.C_drewN ?_ _)|(with_reducible refine Kd.C_drew ?_))):d.C W A n xs:=f (Kd.C_below h.out hb.out)
theorem ch_ (h:Aside0 (d.R e w base ok (.slice A n c) xs)) (f:d.C w A xs.length xs->d.C W A xs.length xs:=by intro h_;repeat (first|exact h_|(with_reducible refine Kd.C_alloc ?_ _)|(with_reducible refine Kd.C_drewN ?_ _)|(with_reducible refine Kd.C_drew ?_))):d.C W A xs.length xs:=f (Kd.R_reads' h.out).2.2
theorem chf_ (h:Aside0 (d.R e w base ok (.slice A n c) xs)) (k:Aside0 (w.heap[g]?=some (.cells cs t (0,0)))) (hne:∀ q,q ∈ e :: d.E->q ≠ t:=by decide) (f:d.R e w base (fun k=>ok k∧k ≠ g) (.slice A n c) xs->d.R e W base (fun k=>ok k∧k ≠ g) (.slice A n c) xs:=by intro h_;repeat (with_reducible first|exact h_|apply Kd.R_alloc|apply Kd.R_drewN|apply Kd.R_drew|refine Kd.R_far ?_ (fun _ hk=>hk.2) _)):d.C W A xs.length xs:=(Kd.R_reads' (kf_ h k hne f)).2.2
theorem cl_ (h:Aside0 (d.R e w base ok (.slice A n c) xs)):n≤c:=(Kd.R_reads' h.out).2.1
theorem ai_ {kk:IntKind} {m:Nat} {ns:List Int} (h:(Kd.int kk).C w A m ns) (i:Int) (p:decide (0≤i)=true:=by assumption) (q:decide (i < (m:Int))=true:=by assumption):∃ ad,A=some ad∧w.cell? (ad.add i.toNat)=some (.int kk (rd ns i))∧((0≤i)=True)∧((i < (m:Int))=True) :=
 let ⟨ad,h1,h2⟩:=Kd.at_int h i (of_decide_eq_true p) (of_decide_eq_true q)
 ⟨ad,h1,h2,eq_true (of_decide_eq_true p),eq_true (of_decide_eq_true q)⟩
end
section
variable {p:Prop} [Decidable p] {α β:Type} {x y r:α} {s:β} {u:Option β}
theorem it_ (H:(if p then x else y)=r):(p∧x=r)∨(¬ p∧y=r):=by by_cases h:p;exact .inl ⟨h,(if_pos h).symm.trans H⟩;exact .inr ⟨h,(if_neg h).symm.trans H⟩
theorem itd_ (H:(if p then x else y)=r):(decide p=true∧x=r)∨(decide p=false∧y=r):=(it_ H).imp (fun h=>⟨decide_eq_true h.1,h.2⟩) (fun h=>⟨decide_eq_false h.1,h.2⟩)
theorem ip_ (H:(if p then u else none)=some s):p∧u=some s:=(it_ H).elim id (fun h=>nomatch h.2)
theorem ipd_ (H:(if p then u else none)=some s):decide p=true∧u=some s:=⟨decide_eq_true (ip_ H).1,(ip_ H).2⟩
theorem in_ (H:(if p then none else u)=some s):¬ p∧u=some s:=(it_ H).elim (fun h=>nomatch h.2) id
theorem ind_ (H:(if p then none else u)=some s):decide p=false∧u=some s:=⟨decide_eq_false (in_ H).1,(in_ H).2⟩
theorem itb_ {b:Bool} (H:(if b=true then x else y)=r):(b=true∧x=r)∨(b=false∧y=r):=(it_ H).imp id (fun h=>⟨Bool.eq_false_iff.mpr h.1,h.2⟩)
theorem ipb_ {b:Bool} (H:(if b=true then u else none)=some s):b=true∧u=some s:=ip_ H
theorem inb_ {b:Bool} (H:(if b=true then none else u)=some s):b=false∧u=some s:=⟨Bool.eq_false_iff.mpr (in_ H).1,(in_ H).2⟩
theorem bi_ {γ:Type} {z:Option γ} {f:γ->Option β} (H:z.bind f=some s):∃ a,Aside0 (z=some a)∧f a=some s:=let ⟨a,h,k⟩:=Option.bind_eq_some_iff.mp H;⟨a,⟨h⟩,k⟩
theorem yh_ {γ:Type} {a b:γ} {P Q:Prop} (e:a=b) (h:P) (f:a=b->P->Q:=by intro e_ H;first|(rw [e_];with_reducible exact H)|(have H2_:=(Option.bind_some _ _).symm.trans H;rw [e_];with_reducible exact H2_)|(have H2_:=(Option.bind_some _ _).symm.trans H;with_reducible exact H2_)|with_reducible exact H|(rw [e_];exact H)|exact H):Q:=f e h
end
theorem so2_ {A B:Type} {x0 y0:A} {x1 y1:B} (H:some (x0,x1)=some (y0,y1)):x0=y0∧x1=y1:=by cases H;exact ⟨rfl,rfl⟩
theorem so3_ {A B C:Type} {x0 y0:A} {x1 y1:B} {x2 y2:C} (H:some (x0,x1,x2)=some (y0,y1,y2)):x0=y0∧x1=y1∧x2=y2:=by cases H;exact ⟨rfl,rfl,rfl⟩
theorem so4_ {A B C D:Type} {x0 y0:A} {x1 y1:B} {x2 y2:C} {x3 y3:D} (H:some (x0,x1,x2,x3)=some (y0,y1,y2,y3)):x0=y0∧x1=y1∧x2=y2∧x3=y3:=by cases H;exact ⟨rfl,rfl,rfl,rfl⟩
theorem so5_ {A B C D E:Type} {x0 y0:A} {x1 y1:B} {x2 y2:C} {x3 y3:D} {x4 y4:E} (H:some (x0,x1,x2,x3,x4)=some (y0,y1,y2,y3,y4)):x0=y0∧x1=y1∧x2=y2∧x3=y3∧x4=y4:=by cases H;exact ⟨rfl,rfl,rfl,rfl,rfl⟩
theorem so6_ {A B C D E F:Type} {x0 y0:A} {x1 y1:B} {x2 y2:C} {x3 y3:D} {x4 y4:E} {x5 y5:F} (H:some (x0,x1,x2,x3,x4,x5)=some (y0,y1,y2,y3,y4,y5)):x0=y0∧x1=y1∧x2=y2∧x3=y3∧x4=y4∧x5=y5:=by cases H;exact ⟨rfl,rfl,rfl,rfl,rfl,rfl⟩
theorem so7_ {A B C D E F G:Type} {x0 y0:A} {x1 y1:B} {x2 y2:C} {x3 y3:D} {x4 y4:E} {x5 y5:F} {x6 y6:G} (H:some (x0,x1,x2,x3,x4,x5,x6)=some (y0,y1,y2,y3,y4,y5,y6)):x0=y0∧x1=y1∧x2=y2∧x3=y3∧x4=y4∧x5=y5∧x6=y6:=by cases H;exact ⟨rfl,rfl,rfl,rfl,rfl,rfl,rfl⟩
theorem so8_ {A B C D E F G H:Type} {x0 y0:A} {x1 y1:B} {x2 y2:C} {x3 y3:D} {x4 y4:E} {x5 y5:F} {x6 y6:G} {x7 y7:H} (H:some (x0,x1,x2,x3,x4,x5,x6,x7)=some (y0,y1,y2,y3,y4,y5,y6,y7)):x0=y0∧x1=y1∧x2=y2∧x3=y3∧x4=y4∧x5=y5∧x6=y6∧x7=y7:=by cases H;exact ⟨rfl,rfl,rfl,rfl,rfl,rfl,rfl,rfl⟩
section
variable {w:World} {g:Nat} {t:TypeId} {c0 c1 c2 c3 c4 c5 c6 c7:Value}
theorem cz2_ (h:Aside0 (w.heap[g]?=some (.cells #[c0,c1] t (0,0)))):w.cell? ⟨g,0,none⟩=some c0∧w.cell? ⟨g,1,none⟩=some c1∧w.frozen? ⟨g,0,none⟩=false∧w.frozen? ⟨g,1,none⟩=false:=⟨(blk_cell h.out 0).trans rfl,(blk_cell h.out 1).trans rfl,blk_frozen h.out 0,blk_frozen h.out 1⟩
theorem cz3_ (h:Aside0 (w.heap[g]?=some (.cells #[c0,c1,c2] t (0,0)))):w.cell? ⟨g,0,none⟩=some c0∧w.cell? ⟨g,1,none⟩=some c1∧w.cell? ⟨g,2,none⟩=some c2∧w.frozen? ⟨g,0,none⟩=false∧w.frozen? ⟨g,1,none⟩=false∧w.frozen? ⟨g,2,none⟩=false:=⟨(blk_cell h.out 0).trans rfl,(blk_cell h.out 1).trans rfl,(blk_cell h.out 2).trans rfl,blk_frozen h.out 0,blk_frozen h.out 1,blk_frozen h.out 2⟩
theorem cz5_ (h:Aside0 (w.heap[g]?=some (.cells #[c0,c1,c2,c3,c4] t (0,0)))):w.cell? ⟨g,0,none⟩=some c0∧w.cell? ⟨g,1,none⟩=some c1∧w.cell? ⟨g,2,none⟩=some c2∧w.cell? ⟨g,3,none⟩=some c3∧w.cell? ⟨g,4,none⟩=some c4∧w.frozen? ⟨g,0,none⟩=false∧w.frozen? ⟨g,1,none⟩=false∧w.frozen? ⟨g,2,none⟩=false∧w.frozen? ⟨g,3,none⟩=false∧w.frozen? ⟨g,4,none⟩=false:=⟨(blk_cell h.out 0).trans rfl,(blk_cell h.out 1).trans rfl,(blk_cell h.out 2).trans rfl,(blk_cell h.out 3).trans rfl,(blk_cell h.out 4).trans rfl,blk_frozen h.out 0,blk_frozen h.out 1,blk_frozen h.out 2,blk_frozen h.out 3,blk_frozen h.out 4⟩
theorem cz8_ (h:Aside0 (w.heap[g]?=some (.cells #[c0,c1,c2,c3,c4,c5,c6,c7] t (0,0)))):w.cell? ⟨g,0,none⟩=some c0∧w.cell? ⟨g,1,none⟩=some c1∧w.cell? ⟨g,2,none⟩=some c2∧w.cell? ⟨g,3,none⟩=some c3∧w.cell? ⟨g,4,none⟩=some c4∧w.cell? ⟨g,5,none⟩=some c5∧w.cell? ⟨g,6,none⟩=some c6∧w.cell? ⟨g,7,none⟩=some c7∧w.frozen? ⟨g,0,none⟩=false∧w.frozen? ⟨g,1,none⟩=false∧w.frozen? ⟨g,2,none⟩=false∧w.frozen? ⟨g,3,none⟩=false∧w.frozen? ⟨g,4,none⟩=false∧w.frozen? ⟨g,5,none⟩=false∧w.frozen? ⟨g,6,none⟩=false∧w.frozen? ⟨g,7,none⟩=false:=⟨(blk_cell h.out 0).trans rfl,(blk_cell h.out 1).trans rfl,(blk_cell h.out 2).trans rfl,(blk_cell h.out 3).trans rfl,(blk_cell h.out 4).trans rfl,(blk_cell h.out 5).trans rfl,(blk_cell h.out 6).trans rfl,(blk_cell h.out 7).trans rfl,blk_frozen h.out 0,blk_frozen h.out 1,blk_frozen h.out 2,blk_frozen h.out 3,blk_frozen h.out 4,blk_frozen h.out 5,blk_frozen h.out 6,blk_frozen h.out 7⟩
end
theorem hn5_ {p0 p1 p2 p3 p4:Prop} (h0:p0) (h1:p1) (h2:p2) (h3:p3) (h4:p4):p0∧p1∧p2∧p3∧p4:=⟨h0,h1,h2,h3,h4⟩
theorem kn_ {w w1 w2:World} {g:Nat} {row:Option Nat} (h:Aside0 (KeepBut w w1 g row)) (f:KeepBut w w1 g row->KeepBut w w2 g row:=by intro h_;repeat (first|(with_reducible first|exact h_|apply KeepBut.set_|apply keep_drewN|apply keep_drew|apply keep_alloc|refine keep_far ?_ (Aside0.out (by assumption)) _)|exact h_)):KeepBut w w2 g row:=f h.out
theorem kt_ {w w1 w2:World} {S:Nat->Prop} (h:Aside0 (Kept w w1 S)) (f:Kept w w1 S->Kept w w2 S:=by intro h_;repeat (first|(with_reducible first|exact h_|apply Kept.alloc|apply Kept.drewN|apply Kept.drew)|exact h_)):Kept w w2 S:=f h.out
theorem cw_ {w W:World} {p:Addr} {v:Value} (hb:Aside0 (Below w.heap.size w W)) (h:w.cell? p=some v):W.cell? p=some v:=(hb.out.cell (World.block_lt_of_cell? w _ h)).trans h
theorem gw_ {w w1 W:World} {g b:Nat} (hg:b=W.heap.size) (h:Aside0 (KeepBut w w1 g none)) (f:KeepBut w w1 g none->KeepBut w W g none:=by intro h_;repeat (first|(with_reducible first|exact h_|apply KeepBut.set_|apply keep_drewN|apply keep_drew|apply keep_alloc|refine keep_far ?_ (Aside0.out (by assumption)) _)|exact h_)):Aside0 (w.heap.size≤b):=⟨by rw [hg];exact keep_size (f h.out)⟩
theorem kbk_ {W w':World} {g g':Nat} {o:Obj} (hk:KeepBut W w' g none) (h:W.heap[g']?=some o) (n:Aside0 (g' ≠ g)):Aside0 (w'.heap[g']?=some o):=⟨KeepBut.blk hk h n.out (by simp)⟩
section
variable {α:Type} {d:Kd α} {e base g g2:Nat} {ok ok':Nat->Prop} {w W w' w1 w2:World} {v u:Value} {xs:List α} {t t2:TypeId} {cs cs2:Array Value}
theorem kfm_ (h:Aside0 (d.R e w base ok v xs)) (k:Aside0 (w.heap[g]?=some (.cells cs t (0,0)))) (hne:∀ q,q ∈ e :: d.E->q ≠ t:=by decide) (f:d.R e w base (fun k=>ok k∧k ≠ g) v xs->d.R e W base (fun k=>ok k∧k ≠ g) v xs:=by intro h_;repeat (with_reducible first|exact h_|apply Kd.R_alloc|apply Kd.R_drewN|apply Kd.R_drew|refine Kd.R_far ?_ (fun _ hk=>hk.2) _)) (m:∀ k,ok k->ok' k:=by first|exact fun _ hk=>hk|exact fun _ _=>trivial|exact fun _ hk=>hk.1):d.R e W base ok' v xs:=Kd.R_mono (kf_ h k hne f) m
theorem rfa_ {i:Nat} {r:Option Nat} (h:d.R e w base (fun k=>(ok k∧k ≠ g)∧k ≠ g2) v xs):d.R e (w.setCell ⟨g2,i,r⟩ u) base (fun k=>(ok k∧k ≠ g)∧k ≠ g2) v xs:=Kd.R_far h (fun _ hk=>hk.2) u
theorem rfb_ {i:Nat} {r:Option Nat} (h:d.R e w base (fun k=>(ok k∧k ≠ g)∧k ≠ g2) v xs):d.R e (w.setCell ⟨g,i,r⟩ u) base (fun k=>(ok k∧k ≠ g)∧k ≠ g2) v xs:=Kd.R_far h (fun _ hk=>hk.1.2) u
theorem kfm2_ (h:Aside0 (d.R e w base ok v xs)) (k:Aside0 (w.heap[g]?=some (.cells cs t (0,0)))) (k2:Aside0 (w.heap[g2]?=some (.cells cs2 t2 (0,0)))) (hne:∀ q,q ∈ e :: d.E->q ≠ t:=by decide) (hne2:∀ q,q ∈ e :: d.E->q ≠ t2:=by decide) (f:d.R e w base (fun k=>(ok k∧k ≠ g)∧k ≠ g2) v xs->d.R e W base (fun k=>(ok k∧k ≠ g)∧k ≠ g2) v xs:=by intro h_;repeat (with_reducible first|exact h_|apply Kd.R_alloc|apply Kd.R_drewN|apply Kd.R_drew|apply rfa_|apply rfb_)) (m:∀ k,ok k->ok' k:=by first|exact fun _ hk=>hk|exact fun _ _=>trivial|exact fun _ hk=>hk.1):d.R e W base ok' v xs:=Kd.R_mono (f (Kd.R_types (Kd.R_types h.out k.out hne) k2.out hne2)) (fun _ h_=>m _ h_.1.1)
theorem km_ (h:Aside0 (d.R e w base ok v xs)) (f:d.R e w base ok v xs->d.R e W base ok v xs:=by intro h_;(with_reducible repeat (first|apply Kd.R_alloc|apply Kd.R_drewN|apply Kd.R_drew));exact h_) (m:∀ k,ok k->ok' k:=by first|exact fun _ _=>trivial|exact fun _ hk=>hk|exact fun _ hk=>hk.1):d.R e W base ok' v xs:=Kd.R_mono (f h.out) m
theorem cff_ {q p:Addr} {u:Value} {x:Option Value} (h:q.block ≠ p.block) (k:W.cell? q=x):(W.setCell p u).cell? q=x:=(cell_far h u).trans k
theorem cf_ {q:Addr} {x:Option Value} (n:Aside0 (g ≠ g2)) (h:w.cell? q=x) (f:g ≠ g2->w.cell? q=x->w'.cell? q=x:=by intro n_ h_;repeat (first|with_reducible exact h_|refine cff_ n_ ?_)):w'.cell? q=x:=f n.out h
theorem ktr_ (h:Aside0 (KeepBut w w1 g none)) (k:KeepBut W w2 g none) (f:KeepBut w w1 g none->KeepBut w W g none:=by intro h_;repeat (first|(with_reducible first|exact h_|apply KeepBut.set_|apply keep_drewN|apply keep_drew|apply keep_alloc|refine keep_far ?_ (Aside0.out (by assumption)) _)|exact h_)):Aside0 (KeepBut w w2 g none):=⟨KeepBut.trans (f h.out) k (.inl rfl)⟩
theorem rlo_ (h:d.R e w1 W.heap.size ok v xs) (b:Aside0 (Below w.heap.size w w2)) (f:Below w.heap.size w w2->Below w.heap.size w W:=by intro h_;repeat (first|(with_reducible first|exact h_|apply below_alloc|apply pw_below_drewN|apply below_drew1|refine below_set ?_ (Aside0.out (by assumption)))|exact h_)):Aside0 (d.R e w1 w.heap.size ok v xs):=⟨Kd.R_lower h (below_size (f b.out))⟩
theorem bd_ {o:Obj} (h:Aside0 (w.heap[g]?=some o)):Aside0 (w.drew.heap[g]?=some o):=⟨blk_drew h.out⟩
theorem hd_ (h:Aside0 (Below w.heap.size w w1)):Aside0 (Below w.heap.size w w1.drew):=⟨below_drew1 h.out⟩
theorem h0_ (w:World):Aside0 (Below w.heap.size w w):=⟨Below.refl _ w⟩
end
section
variable {P:Program} {ops:Array Oper} {Q:Exit->Act->World->Prop} {md:Region.Mode} {S:World->Prop} {ds:List Nat} {T:Bool × List (List Nat × List Nat)}
theorem oz_ (i:Nat) (N:Tmp) (n m:Nat) {oi:Oper} {fuel:Nat} {l:Array Bool} {a:Act} {w:World}
 (h:∀ K:Act->World->Prop,Shut (∀ a' w',S w'->(S w'->wpAnyLast P md ops Q S ds fuel (lz_ n m) a' w')->K a' w')->if Region.wanted oi (yielded ops a.tmps)=true then Oper.wp P oi a w K Q else K (a.put (some N) undef) w)
 (hi:ops[i]?=some oi:=by exact rfl) (hN:oi.dst=some N:=by exact rfl) (hc:readyB md ops l (lz_ n m) i=true:=by exact one_of HT_.out (by kernel_rfl)) (hd:i ∉ ds:=by decide):wpAnyLast P md ops Q S ds (fuel+1) l a w:=one_ (lz_ n m) hi hN hc hd h
theorem dn_ {l:Array Bool} {a:Act} {w:World} {n:Nat} (h:Q .normal a w) (hr:(Region.ready md ops l == [])=true:=by exact done_of HT_.out (by kernel_rfl)):wpAnyLast P md ops Q S ds n l a w:=done_ hr h
end
theorem sm_ {p q:Prop} (h:q) (f:p ↔ q:=by simp only [Act.put,List.setIfInBounds_toArray,List.set_cons_zero,List.set_cons_succ,i64_w,i32_w];exact Iff.rfl):p:=f.2 h
theorem am_ {p:Prop} (h:p):Aside0 p:=⟨h⟩
theorem od_ {p:Prop} [Decidable p] (h:decide p=true:=by first|(with_reducible assumption)|assumption):p:=of_decide_eq_true h
section
variable {P:Program} {ops:Array Oper} {Q:Exit->Act->World->Prop} {S:World->Prop} {ds:List Nat} {T:Bool × List (List Nat × List Nat)} {B:List Nat}
theorem sw_ (n:Nat) (S:World->Prop) (ds:List Nat) {ops':Array Oper} (hT:rtab .any ops'=T) (hB:waitsOk T.2 B=true) {id:Nat} {a:Act} {w:World} (hS:S w.drew)
 (h:S w.drew->Aside0 (rtab .any ops=T)->Aside0 (waitsOk T.2 B=true)->wpAnyLast P .any ops Q S ds n (lz_ n 0) a w.drew) (he:ops=ops':=by exact rfl) (hm:P.follows .mixedOrders=true:=by kernel_rfl) (hn:ops.size=n:=by exact rfl) (hl:Array.replicate n false=lz_ n 0:=by exact rfl):(Code.region id ops true).wp P Q a w:=start_ (lz_ n 0) hm hn hl hS (fun s=>h s ⟨he ▸ hT⟩ ⟨hB⟩)
end
theorem kv_ {α:Type} {d:Kd α} {e:Nat} {w w':World} {b:Nat} {ok:Nat->Prop} {v:Value} {xs:List α} (h:d.V e w b ok v xs) (g:d.V e w b ok v xs->d.V e w' b ok v xs:=by intro h_;(with_reducible repeat (first|apply Kd.V_alloc|apply Kd.V_drewN|apply Kd.V_drew));exact h_):d.V e w' b ok v xs:=g h
theorem nil_ {p:Prop} (h:p:=by first|exact Kd.R_nil _ _ _ _ _|exact Kd.N_nil _ _ _ _ _|exact Kd.V_nil _ _ _ _ _|exact Kd.Q_nil _ _ _ _ _|exact Kd.S_nil _ _ _ _ _):p:=h
theorem hx_ {w W W0:World} {o:Obj} {G:Nat->World->Prop} (b:Aside0 (Below w.heap.size w W0)) (h:∀ g w1,Aside0 (w1.heap[g]?=some o)->Aside0 (w.heap.size≤g)->Aside0 (Below w.heap.size w w1)->G g w1) (f:Below w.heap.size w W0->Below w.heap.size w W:=by intro h_;repeat (first|(with_reducible first|exact h_|apply below_alloc|apply pw_below_drewN|apply below_drew1|refine below_set ?_ (Aside0.out (by assumption)))|exact h_)):∀ g,g=W.heap.size->∀ w1,w1.heap[g]?=some o->Below W.heap.size W w1->G g w1:=fun g hg w1 hb hB=>h g w1 ⟨hb⟩ ⟨gz_ hg (below_size (f b.out))⟩ ⟨below_step (f b.out) hB⟩
section
variable {P:Program} {fn:Func} {p q q2:Tmp} {ty:TypeId} {tmps:Array Value} {w0 w:World} {o:Obj} {d:TypeDesc}
theorem rcr_ (g t:Nat) (cs:Array Value) (k:Aside0 (w0.heap[g]?=some o)) (hu:P.underlying ty=some d) (h:fn.results=#[.cell p ty]:=by exact rfl) (hp:tmps.getD p undef = .pointer (some ⟨g,0,none⟩):=by exact rfl) (f:w0.heap[g]?=some o->w.heap[g]?=some (.cells cs t (0,0)):=by intro h_;exact kq_ ⟨h_⟩) (hd:(match d with | .struct _ | .array _ _=>true | _=>false)=true:=by exact rfl) (hi:(P.info? ty).map (·.size)=some cs.size:=by kernel_rfl):(results fn tmps).run P w = .ok (.agg cs) w:=results_cell_row h tmps w g t cs (0,0) d hp (f k.out) hu hd hi
theorem rct_ (g t:Nat) (cs:Array Value) (k:Aside0 (w0.heap[g]?=some o)) (hu:P.underlying ty=some d) (h:fn.results=#[.cell p ty,.tmp q]:=by exact rfl) (hp:tmps.getD p undef = .pointer (some ⟨g,0,none⟩):=by exact rfl) (f:w0.heap[g]?=some o->w.heap[g]?=some (.cells cs t (0,0)):=by intro h_;exact kq_ ⟨h_⟩) (hd:(match d with | .struct _ | .array _ _=>true | _=>false)=true:=by exact rfl) (hi:(P.info? ty).map (·.size)=some cs.size:=by kernel_rfl):(results fn tmps).run P w = .ok (.tuple #[.agg cs,tmps.getD q undef]) w:=results_ct h tmps w g t cs (0,0) d hp (f k.out) hu hd hi
theorem rctt_ (g t:Nat) (cs:Array Value) (k:Aside0 (w0.heap[g]?=some o)) (hu:P.underlying ty=some d) (h:fn.results=#[.cell p ty,.tmp q,.tmp q2]:=by exact rfl) (hp:tmps.getD p undef = .pointer (some ⟨g,0,none⟩):=by exact rfl) (f:w0.heap[g]?=some o->w.heap[g]?=some (.cells cs t (0,0)):=by intro h_;exact kq_ ⟨h_⟩) (hd:(match d with | .struct _ | .array _ _=>true | _=>false)=true:=by exact rfl) (hi:(P.info? ty).map (·.size)=some cs.size:=by kernel_rfl):(results fn tmps).run P w = .ok (.tuple #[.agg cs,tmps.getD q undef,tmps.getD q2 undef]) w:=results_ctt h tmps w g t cs (0,0) d hp (f k.out) hu hd hi
end
section
variable {P:Program} {ops:Array Oper} {rest:List Oper} {o:Oper} {a:Act} {Q:Exit->Act->World->Prop} {W:World}
theorem x116_ (N:Tmp) (h:∀ g,g=W.heap.size->∀ w1,w1.heap[g]?=some (.cells #[.slice none 0 0,.int .i64 0,.bool false] 116 (0,0))->Below W.heap.size W w1->wpList P ops Q rest (a.put o.dst (.pointer (some ⟨g,0,none⟩))) w1) (hd:o.dst=some N:=by exact rfl) (hg:o.guard=none:=by exact rfl) (hr:(execOp a.eval o).run P W = .ok (.value (.pointer (some ⟨W.heap.size,0,none⟩))) (W.alloc (.cells #[.slice none 0 0,.int .i64 0,.bool false] 116 (0,0))):=by first|(go_simp;done)|(go_simp;rfl)):wpList P ops Q (o :: rest) a W:=bx_ N 116 #[.slice none 0 0,.int .i64 0,.bool false] h hd hg hr
theorem x37_ (N:Tmp) (h:∀ g,g=W.heap.size->∀ w1,w1.heap[g]?=some (.cells #[.int .i64 0,.string (⟨#[]⟩:ByteArray)] 37 (0,0))->Below W.heap.size W w1->wpList P ops Q rest (a.put o.dst (.pointer (some ⟨g,0,none⟩))) w1) (hd:o.dst=some N:=by exact rfl) (hg:o.guard=none:=by exact rfl) (hr:(execOp a.eval o).run P W = .ok (.value (.pointer (some ⟨W.heap.size,0,none⟩))) (W.alloc (.cells #[.int .i64 0,.string (⟨#[]⟩:ByteArray)] 37 (0,0))):=by first|(go_simp;done)|(go_simp;rfl)):wpList P ops Q (o :: rest) a W:=bx_ N 37 #[.int .i64 0,.string (⟨#[]⟩:ByteArray)] h hd hg hr
theorem x39_ (N:Tmp) (h:∀ g,g=W.heap.size->∀ w1,w1.heap[g]?=some (.cells #[.slice none 0 0,.int .i64 0,.string (⟨#[]⟩:ByteArray)] 39 (0,0))->Below W.heap.size W w1->wpList P ops Q rest (a.put o.dst (.pointer (some ⟨g,0,none⟩))) w1) (hd:o.dst=some N:=by exact rfl) (hg:o.guard=none:=by exact rfl) (hr:(execOp a.eval o).run P W = .ok (.value (.pointer (some ⟨W.heap.size,0,none⟩))) (W.alloc (.cells #[.slice none 0 0,.int .i64 0,.string (⟨#[]⟩:ByteArray)] 39 (0,0))):=by first|(go_simp;done)|(go_simp;rfl)):wpList P ops Q (o :: rest) a W:=bx_ N 39 #[.slice none 0 0,.int .i64 0,.string (⟨#[]⟩:ByteArray)] h hd hg hr
theorem x41_ (N:Tmp) (h:∀ g,g=W.heap.size->∀ w1,w1.heap[g]?=some (.cells #[.slice none 0 0,.int .i64 0,.string (⟨#[]⟩:ByteArray),.slice none 0 0,.int .i64 0] 41 (0,0))->Below W.heap.size W w1->wpList P ops Q rest (a.put o.dst (.pointer (some ⟨g,0,none⟩))) w1) (hd:o.dst=some N:=by exact rfl) (hg:o.guard=none:=by exact rfl) (hr:(execOp a.eval o).run P W = .ok (.value (.pointer (some ⟨W.heap.size,0,none⟩))) (W.alloc (.cells #[.slice none 0 0,.int .i64 0,.string (⟨#[]⟩:ByteArray),.slice none 0 0,.int .i64 0] 41 (0,0))):=by first|(go_simp;done)|(go_simp;rfl)):wpList P ops Q (o :: rest) a W:=bx_ N 41 #[.slice none 0 0,.int .i64 0,.string (⟨#[]⟩:ByteArray),.slice none 0 0,.int .i64 0] h hd hg hr
theorem x43_ (N:Tmp) (h:∀ g,g=W.heap.size->∀ w1,w1.heap[g]?=some (.cells #[.int .i64 0,.slice none 0 0,.int .i64 0,.string (⟨#[]⟩:ByteArray),.slice none 0 0,.int .i64 0,.int .i64 0,.string (⟨#[]⟩:ByteArray)] 43 (0,0))->Below W.heap.size W w1->wpList P ops Q rest (a.put o.dst (.pointer (some ⟨g,0,none⟩))) w1) (hd:o.dst=some N:=by exact rfl) (hg:o.guard=none:=by exact rfl) (hr:(execOp a.eval o).run P W = .ok (.value (.pointer (some ⟨W.heap.size,0,none⟩))) (W.alloc (.cells #[.int .i64 0,.slice none 0 0,.int .i64 0,.string (⟨#[]⟩:ByteArray),.slice none 0 0,.int .i64 0,.int .i64 0,.string (⟨#[]⟩:ByteArray)] 43 (0,0))):=by first|(go_simp;done)|(go_simp;rfl)):wpList P ops Q (o :: rest) a W:=bx_ N 43 #[.int .i64 0,.slice none 0 0,.int .i64 0,.string (⟨#[]⟩:ByteArray),.slice none 0 0,.int .i64 0,.int .i64 0,.string (⟨#[]⟩:ByteArray)] h hd hg hr
end
end Go.Proofs.YtnlndmoecljicaaGreat
end
section
namespace Go.Proofs.YtnlndmoecljicaaGreat.B
open Go.Proofs.YtnlndmoecljicaaGreatW.PrintLast Go.Proofs.YtnlndmoecljicaaGreatW.PrintMore Go.Proofs.YtnlndmoecljicaaGreatW.PrintWords Go.RowKit
theorem w64 {x:Int} (h0:-9223372036854775808≤x) (h1:x≤9223372036854775807):wrap64 x=x:=by
 unfold wrap64
 omega
theorem Ev.pos {α:Type} {c:Prop} [Decidable c] {g f:Nat->Option α} {r:α} (h:c) (k:Ev g r):Ev (fun n=>if c then g n else f n) r:=Ev.congr (fun _=>if_pos h) k
theorem Ev.neg {α:Type} {c:Prop} [Decidable c] {g f:Nat->Option α} {r:α} (h:¬ c) (k:Ev f r):Ev (fun n=>if c then g n else f n) r:=Ev.congr (fun _=>if_neg h) k
theorem Ev.const {α:Type} {a:Option α} {r:α} (h:a=some r):Ev (fun _=>a) r:=⟨0,fun _ _=>h⟩
theorem Ev.one {α:Type} {g:Nat->Option α} {a r:α} (h:Ev g a) (e:a=r):Ev g r:=e ▸ h
theorem rdOf_at {α:Type} {d:α} {l:List α} {i:Nat} {x:α} (h:l[i]?=some x):rdOf d l (i:Int)=x:=by
 unfold rdOf
 simp [List.getD_eq_getElem?_getD,h]
theorem rd_at {l:List Int} {i:Nat} {x:Int} (h:l[i]?=some x):rd l (i:Int)=x:=by
 unfold rd
 simp [List.getD_eq_getElem?_getD,h]
theorem bytes_ext {a b:ByteArray} (h:a.toList=b.toList):a=b:=by
 have hd:∀ c:ByteArray,c.toList=c.data.toList:=fun c=>Go.Lib.toList_data c
 rw [hd,hd] at h
 cases a
 cases b
 simpa [Array.toList_inj] using h
theorem take_one {α:Type} {l:List α} {i:Nat} {x:α} (h:l[i]?=some x):l.take (i+1)=l.take i ++ [x]:=by
 obtain ⟨hi,he⟩:=List.getElem?_eq_some_iff.1 h
 rw [List.take_succ_eq_append_getElem hi,he]
theorem drop_one {α:Type} {l:List α} {i:Nat} {x:α} (h:l[i]?=some x):l.drop i=x :: l.drop (i+1):=by
 obtain ⟨hi,he⟩:=List.getElem?_eq_some_iff.1 h
 rw [List.drop_eq_getElem_cons hi,he]
theorem set_take {α:Type} {l:List α} {i:Nat} (x:α) (hi:i < l.length):(l.set i x).take (i+1)=l.take i ++ [x]:=by
 rw [List.take_succ_eq_append_getElem (by simpa using hi)]
 simp [List.take_set_of_le]
theorem get_some {α:Type} {l:List α} {i:Nat} (hi:i < l.length):∃ x,l[i]?=some x:=⟨l[i],List.getElem?_eq_getElem hi⟩
def total (l:List ByteArray):Int:=(l.map fun s=>(s.size:Int)).sum
theorem total_nonneg (l:List ByteArray):0≤total l:=by
 unfold total
 induction l with
 | nil=>simp
 | cons a l ih =>
  simp only [List.map_cons,List.sum_cons]
  omega
theorem total_cons (a:ByteArray) (l:List ByteArray):total (a :: l)=a.size+total l:=by simp [total]
theorem total_mem {l:List ByteArray} {s:ByteArray} (h:s ∈ l):(s.size:Int)≤total l:=by
 induction l with
 | nil=>simp at h
 | cons a l ih =>
  rw [total_cons]
  have:=total_nonneg l
  rcases List.mem_cons.1 h with rfl|h
  ·omega
  ·have:=ih h
   omega
end Go.Proofs.YtnlndmoecljicaaGreat.B
end
section
namespace Go.Proofs.YtnlndmoecljicaaGreat.Q
open Go.Proofs.YtnlndmoecljicaaGreatW.PrintLast Go.Proofs.YtnlndmoecljicaaGreatW.PrintMore Go.Proofs.YtnlndmoecljicaaGreatW.PrintWords Go.RowKit
attribute [local go_sem] max2_int min2_int max_two min_two max_three min_three max_four min_four
set_option maxHeartbeats 8000000
set_option maxRecDepth 100000
def errW:Option Int->Value
 | none=>.nilIface
 | some c=>.iface 0 (.int .i64 c)
theorem errW_none:errW none = .nilIface:=rfl
theorem errW_some (c:Int):errW (some c) = .iface 0 (.int .i64 c):=rfl
theorem info3:(Tryz.prog.info? 3).map (fun i=>(i.zero,i.size,i.bytes))=some (some (.int .i64 0),1,8):=by kernel_rfl
theorem info5:(Tryz.prog.info? 5).map (fun i=>(i.zero,i.size,i.bytes))=some (some (.int .u8 0),1,1):=by kernel_rfl
theorem info9:(Tryz.prog.info? 9).map (fun i=>(i.zero,i.size,i.bytes))=some (some (.string ⟨#[]⟩),1,16):=by kernel_rfl
theorem info37:(Tryz.prog.info? 37).map (fun i=>(i.zero,i.size,i.bytes))=some (some (.agg #[(.int .i64 0),(.string ⟨#[]⟩)]),2,24):=by kernel_rfl
structure S24 where
 f0:Int
 f1:ByteArray
structure S37 where
 f0:Int
 f1:ByteArray
def z37:S37:=⟨(0:Int),(⟨#[]⟩:ByteArray)⟩
def k37:Kd S37:=Kd.iso (Kd.pair (Kd.int .i64) Kd.string) (fun x:S37=>(x.f0,x.f1))
theorem k37_open {w:World} {x:S37} {cs:List Value} (h:k37.K w x cs):cs=[.int .i64 x.f0,.string x.f1]:=by
 obtain ⟨_,_,rfl,rfl,rfl⟩:=h
 exact rfl
theorem k37_mkM (w:World) (base:Nat) (ok:Nat->Prop) (x:S37)  : k37.M w base ok x [.int .i64 x.f0,.string x.f1]:=⟨[.int .i64 x.f0],[.string x.f1],rfl,rfl,rfl⟩
def rd_T37 (xs:List S37) (i:Int):S37:=xs.getD i.toNat z37
theorem at_T37 {w:World} {A:Option Addr} {n:Nat} {xs:List S37} (h:Kd.C k37 w A n xs) (i:Int) (h0:0≤i) (h1:i < n):∃ ad ,A=some ad∧w.cell? (ad.add (i.toNat * 2))=some (.int .i64 (rd_T37 xs i).f0)∧w.cell? ⟨(ad.add (i.toNat * 2)).block,(ad.add (i.toNat * 2)).off+1,none⟩=some (.string (rd_T37 xs i).f1):=by
 obtain ⟨ad,c,e,_,hK,hc0⟩:=Kd.C_get h z37 i h0 h1
 have hc:∀ j u,c[j]?=some u->w.cell? (ad.add (i.toNat * 2+j))=some u:=hc0
 obtain rfl:=k37_open hK
 exact ⟨ad,e,hc 0 _ rfl,by rw [← add_field _ _ 1 (by omega)];exact hc 1 _ rfl⟩
def rd_L5 (xs:List (List ByteArray)) (i:Int):(List ByteArray):=xs.getD i.toNat ([]:List ByteArray)
theorem at_L5 {w:World} {A:Option Addr} {n:Nat} {xs:List (List ByteArray)} (h:Kd.C (Kd.slice 9 Kd.string) w A n xs) (i:Int) (h0:0≤i) (h1:i < n):∃ ad A0 c0,A=some ad∧w.cell? (ad.add i.toNat)=some (.slice A0 (rd_L5 xs i).length c0)∧(rd_L5 xs i).length≤c0∧Kd.string.C w A0 (rd_L5 xs i).length (rd_L5 xs i):=by
 obtain ⟨ad,c,e,_,hK,hc0⟩:=Kd.C_get h ([]:List ByteArray) i h0 h1
 have hc:∀ j u,c[j]?=some u->w.cell? (ad.add (i.toNat * 1+j))=some u:=hc0
 obtain ⟨A0,c0,rfl,l0,g0⟩:=hK
 exact ⟨ad,A0,c0,e,by have hq:=hc 0 _ rfl;rwa [Nat.mul_one,Nat.add_zero] at hq,l0,g0⟩
structure S65 where
 f0:Int
 f1:Int
 f2:Int
 f3:S37
 f4:Int
 f5:(List ByteArray)
structure S39 where
 f0:(List ByteArray)
 f1:S37
structure S41 where
 f0:S39
 f1:(List Int)
 f2:Int
structure S43 where
 f0:Int
 f1:S41
 f2:S37
structure S26 where
 f0:(List ByteArray)
 f1:S24
structure S29 where
 f0:S26
 f1:(List Int)
 f2:Int
structure S31 where
 f0:Int
 f1:S29
 f2:S24
def bits_RotateLeft32.f (a0:Int) (a1:Int):Option (Int):=if 0≤(Go.bits .and .u64 (IntKind.u64.wrap (a1)) 31) then (if 0≤(IntKind.u64.wrap (32 - (Go.bits .and .u64 (IntKind.u64.wrap (a1)) 31))) then (some (Go.bits .or .u32 (shl .u32 a0 (Go.bits .and .u64 (IntKind.u64.wrap (a1)) 31)) (shr .u32 a0 (IntKind.u64.wrap (32 - (Go.bits .and .u64 (IntKind.u64.wrap (a1)) 31)))))) else (none)) else (none)
theorem bits_RotateLeft32.calls (a0:Int) (a1:Int) (r:Int) (w:World) (h:bits_RotateLeft32.f a0 a1=some r) :
  Calls Tryz.prog 171 #[.int .u32 a0,.int .i64 a1] w fun e w'=>e = .returned (.int .u32 r)∧Drawn0 w w':=by
 have H:(if 0≤(Go.bits .and .u64 (IntKind.u64.wrap (a1)) 31) then (if 0≤(IntKind.u64.wrap (32 - (Go.bits .and .u64 (IntKind.u64.wrap (a1)) 31))) then (some (Go.bits .or .u32 (shl .u32 a0 (Go.bits .and .u64 (IntKind.u64.wrap (a1)) 31)) (shr .u32 a0 (IntKind.u64.wrap (32 - (Go.bits .and .u64 (IntKind.u64.wrap (a1)) 31)))))) else (none)) else (none))=some r:=h
 clear h
 generalize hji3:(Go.bits .and .u64 (IntKind.u64.wrap (a1)) 31)=ji3 at H
 replace H:=ip_ H;obtain ⟨c4,H⟩:=H
 have c4b0:=eq_true c4
 have c4b1:=decide_eq_true c4
 clear c4
 generalize hji5:(shl .u32 a0 (ji3))=ji5 at H
 have hji5_:(IntKind.u32.wrap (a0 * 2 ^ min (ji3).toNat 32))=ji5:=hji5
 have hji5z:(ji3)≤32->(IntKind.u32.wrap (a0 * 2 ^ (ji3).toNat))=ji5:=shl_small hji5
 generalize hji6:(IntKind.u64.wrap (32 - (ji3)))=ji6 at H
 replace H:=ip_ H;obtain ⟨c7,H⟩:=H
 have c7b0:=eq_true c7
 have c7b1:=decide_eq_true c7
 clear c7
 generalize hji8:(shr .u32 a0 (ji6))=ji8 at H
 have hji8_:(a0 / 2 ^ min (ji6).toNat 32)=ji8:=hji8
 have hji8z:(ji6)≤32->(a0 / 2 ^ (ji6).toNat)=ji8:=shr_small hji8
 obtain rfl:=Option.some.inj H
 go_enter Tryz.func171,Tryz.ntmps171
 go_wp2
 go_ret
 exact ⟨by first|rfl|(simp;done)|(simp only [← hji3,← hji5,← hji6,← hji8] <;> (first|rfl|simp))|(simp [*];done),dw_⟩
def rotr (x:Int) (n:Nat):Int:=Go.bits .or .u32 (shl .u32 x (32 - n)) (shr .u32 x n)
theorem rot_of (x k:Int) (n:Nat) (h1:Go.bits .and .u64 (IntKind.u64.wrap k) 31=32 - (n:Int)) (h2:IntKind.u64.wrap (32 - (32 - (n:Int)))=(n:Int)) (hn:n≤32):bits_RotateLeft32.f x k=some (rotr x n):=by
 unfold bits_RotateLeft32.f rotr
 rw [h1,h2,if_pos (by omega),if_pos (by omega)]
theorem rot2 (x:Int):bits_RotateLeft32.f x (-2)=some (rotr x 2):=rot_of x _ 2 (by decide +kernel) (by decide +kernel) (by decide)
theorem rot6 (x:Int):bits_RotateLeft32.f x (-6)=some (rotr x 6):=rot_of x _ 6 (by decide +kernel) (by decide +kernel) (by decide)
theorem rot7 (x:Int):bits_RotateLeft32.f x (-7)=some (rotr x 7):=rot_of x _ 7 (by decide +kernel) (by decide +kernel) (by decide)
theorem rot11 (x:Int):bits_RotateLeft32.f x (-11)=some (rotr x 11):=rot_of x _ 11 (by decide +kernel) (by decide +kernel) (by decide)
theorem rot13 (x:Int):bits_RotateLeft32.f x (-13)=some (rotr x 13):=rot_of x _ 13 (by decide +kernel) (by decide +kernel) (by decide)
theorem rot17 (x:Int):bits_RotateLeft32.f x (-17)=some (rotr x 17):=rot_of x _ 17 (by decide +kernel) (by decide +kernel) (by decide)
theorem rot18 (x:Int):bits_RotateLeft32.f x (-18)=some (rotr x 18):=rot_of x _ 18 (by decide +kernel) (by decide +kernel) (by decide)
theorem rot19 (x:Int):bits_RotateLeft32.f x (-19)=some (rotr x 19):=rot_of x _ 19 (by decide +kernel) (by decide +kernel) (by decide)
theorem rot22 (x:Int):bits_RotateLeft32.f x (-22)=some (rotr x 22):=rot_of x _ 22 (by decide +kernel) (by decide +kernel) (by decide)
theorem rot25 (x:Int):bits_RotateLeft32.f x (-25)=some (rotr x 25):=rot_of x _ 25 (by decide +kernel) (by decide +kernel) (by decide)
def be32 (bs:List Int) (i:Nat):Int:=Go.bits .or .u32 (Go.bits .or .u32 (Go.bits .or .u32 (rd bs (4 * (i:Int)) % 4294967296 * 16777216 % 4294967296) (rd bs (4 * (i:Int) + 1) % 4294967296 * 65536 % 4294967296)) (rd bs (4 * (i:Int) + 2) % 4294967296 * 256 % 4294967296)) (rd bs (4 * (i:Int) + 3) % 4294967296)
def wMix (a16 a15 a7 a2:Int):Int:=(a16+Go.bits .xor .u32 (Go.bits .xor .u32 (rotr a15 7) (rotr a15 18)) (a15 / 8) + a7+Go.bits .xor .u32 (Go.bits .xor .u32 (rotr a2 17) (rotr a2 19)) (a2 / 1024)) % 4294967296
def wAt (bs:List Int):Nat->List Int
 | 0=>List.replicate 64 0
 | i+1=>(wAt bs i).set i (if i < 16 then be32 bs i else wMix ((wAt bs i).getD (i - 16) 0) ((wAt bs i).getD (i - 15) 0) ((wAt bs i).getD (i - 7) 0) ((wAt bs i).getD (i - 2) 0))
theorem wAt_length (bs:List Int) (i:Nat):(wAt bs i).length=64:=by
 induction i with
 | zero=>simp [wAt]
 | succ i ih=>simp [wAt,ih]
def arrU (ys:List Int):Array Value:=(nums .u32 ys).toArray
theorem arrU_get {ys:List Int} {i:Nat} (h:i < ys.length):(arrU ys)[i]?=some (.int .u32 (ys.getD i 0)):=by
 simp [arrU,nums,List.getElem?_eq_getElem h,List.getD_eq_getElem?_getD]
theorem arrU_set (ys:List Int) (i:Nat) (v:Int):(arrU ys).setIfInBounds i (.int .u32 v)=arrU (ys.set i v):=by
 simp [arrU,nums,List.map_set]
theorem bytes_at {w:World} {A:Option Addr} {n:Nat} {bs:List Int} (h:Kd.C (Kd.int .u8) w A n bs) (h0:0 < n):∃ ad,A=some ad∧ad.block < w.heap.size∧∀ i:Nat,i < n->w.cell? (ad.add i)=some (.int .u8 (rd bs i)):=by
 obtain ⟨ad,e,hcell⟩:=h.2.2 h0
 have hl:=h.1
 have hby:∀ i:Nat,i < n->w.cell? (ad.add i)=some (.int .u8 (rd bs i)):=by
  intro i hi
  obtain ⟨x,hx⟩:∃ x,bs[i]?=some x:=⟨bs[i],List.getElem?_eq_getElem (by omega)⟩
  obtain ⟨cs,_,hk,hcc⟩:=hcell i x hx
  have hk2:cs=[.int .u8 x]:=hk
  have:=hcc 0 (.int .u8 x) (by rw [hk2];rfl)
  rw [show i * (Kd.int .u8).sz+0=i from by simp [Kd.int,Kd.scalar]] at this
  rw [this]
  unfold rd
  simp [List.getD_eq_getElem?_getD,hx]
 have had:=World.block_lt_of_cell? w _ (hby 0 h0)
 exact ⟨ad,e,by simpa [Addr.add] using had,hby⟩
set_option maxHeartbeats 4000000 in
theorem wordsOf_calls (A:Option Addr) (c:Nat) (bs:List Int) (w:World) (hr:Kd.C (Kd.int .u8) w A bs.length bs) (hl:bs.length=64) :
  Calls Tryz.prog 170 #[.slice A bs.length c] w fun e w'=>∃ g,e = .returned (.pointer (some ⟨g,0,none⟩))∧w.heap.size≤g∧w'.heap[g]?=some (.cells (arrU (wAt bs 64)) 170 (0,0))∧Below w.heap.size w w':=by
 have HL:=am_ hl
 obtain ⟨ad,rfl,hadl,hby⟩:=bytes_at hr (by omega)
 have HAD:=am_ hadl
 have HBY:=am_ hby
 clear hr hl hby hadl
 go_enter Tryz.func170,Tryz.ntmps170
 go_wp2
 go_loopw [10] (fun i W=>∃ k:Nat,k≤16∧i = .int .i64 k∧Aside0 (W.heap[w.heap.size]?=some (.cells (arrU (wAt bs k)) 170 (0,0)))∧Aside0 (Below w.heap.size w W)) (fun i _=>16 - (intOf i).toNat)
 case atStart =>
  refine ⟨0,by omega,rfl,⟨?_⟩,⟨(Below.refl _ _).alloc (Nat.le_refl _) _⟩⟩
  rw [blk_new]
  rfl
 case round =>
  obtain ⟨k,hk,rfl,HG,HB⟩:=hrel
  by_cases hlt:k < 16
  ·have hb11:decide ((k:Int) < 16)=true:=decide_eq_true (by omega)
   have hblk:∀ i:Nat,(ad.add i).block=ad.block:=fun i=>by unfold Addr.add;split <;> rfl
   have hL:=HL.out
   have ee:∀ i:Nat,i < 64->wr.cell? (ad.add i)=some (.int .u8 (rd bs i)):=fun i hi=>(HB.out.cell (by rw [hblk];exact HAD.out)).trans (HBY.out i (by omega))
   have e0:=ee (4 * k) (by omega)
   have hpl:∀ i:Nat,ad.add (i+1)=⟨ad.block,ad.off+(i+1),none⟩:=fun i=>by unfold Addr.add;rw [if_neg (by omega)]
   have e1':wr.cell? ⟨ad.block,ad.off+(4 * k+1),none⟩=some (.int .u8 (rd bs (4 * (k:Int) + 1))):=by rw [← hpl];exact ee (4 * k+1) (by omega)
   have e2':wr.cell? ⟨ad.block,ad.off+(4 * k+1+1),none⟩=some (.int .u8 (rd bs (4 * (k:Int) + 2))):=by rw [← hpl];exact ee (4 * k+2) (by omega)
   have e3':wr.cell? ⟨ad.block,ad.off+(4 * k+2+1),none⟩=some (.int .u8 (rd bs (4 * (k:Int) + 3))):=by rw [← hpl];exact ee (4 * k+3) (by omega)
   have e2'':wr.cell? ⟨ad.block,ad.off+(4 * k+2),none⟩=some (.int .u8 (rd bs (4 * (k:Int) + 2))):=e2'
   have e3'':wr.cell? ⟨ad.block,ad.off+(4 * k+3),none⟩=some (.int .u8 (rd bs (4 * (k:Int) + 3))):=e3'
   clear ee hblk hpl
   have hcl:wr.cell? ⟨w.heap.size,k,none⟩=some (.int .u32 ((wAt bs k).getD k 0)):=(blk_cell HG.out k).trans (arrU_get (by rw [wAt_length];omega))
   obtain ⟨old,hold⟩:∃ old,old=(wAt bs k).getD k 0:=⟨_,rfl⟩
   rw [← hold] at hcl
   clear hold
   have hfl:=blk_frozen HG.out k
   have s0:IntKind.i64.wrap (4 * (k:Int))=4 * (k:Int):=IntWalk.i64_in _ ⟨by omega,by omega⟩
   have s1:IntKind.i64.wrap (4 * (k:Int) + 1)=4 * (k:Int) + 1:=IntWalk.i64_in _ ⟨by omega,by omega⟩
   have s2:IntKind.i64.wrap (4 * (k:Int) + 2)=4 * (k:Int) + 2:=IntWalk.i64_in _ ⟨by omega,by omega⟩
   have s3:IntKind.i64.wrap (4 * (k:Int) + 3)=4 * (k:Int) + 3:=IntWalk.i64_in _ ⟨by omega,by omega⟩
   have p0:0≤4 * (k:Int):=by omega
   have p1:0≤4 * (k:Int) + 1:=by omega
   have p2:0≤4 * (k:Int) + 2:=by omega
   have p3:0≤4 * (k:Int) + 3:=by omega
   have l0:4 * (k:Int) < (bs.length:Int):=by omega
   have l1:4 * (k:Int) + 1 < (bs.length:Int):=by omega
   have l2:4 * (k:Int) + 2 < (bs.length:Int):=by omega
   have l3:4 * (k:Int) + 3 < (bs.length:Int):=by omega
   have l4:(k:Int) < 64:=by omega
   have t0:(4 * (k:Int)).toNat=4 * k:=by omega
   have t1:(4 * (k:Int) + 1).toNat=4 * k+1:=by omega
   have t2:(4 * (k:Int) + 2).toNat=4 * k+2:=by omega
   have t3:(4 * (k:Int) + 3).toNat=4 * k+3:=by omega
   clear hL
   go_wp2
   go_region
   go_wp2
   go_roundw
   case rel =>
    refine ⟨k+1,by omega,by go_num,⟨?_⟩,⟨HB.out.drew.setCell (Nat.le_refl _) _⟩⟩
    have hs:=blk_set (blk_drew HG.out) k (.int .u32 (be32 bs k))
    rw [arrU_set] at hs
    rw [show wAt bs (k+1)=(wAt bs k).set k (be32 bs k) from by simp [wAt,hlt]]
    exact hs
   case measure => simp [intOf];omega
  ·obtain rfl:k=16:=by omega
   have hb11:decide (((16:Nat):Int) < 16)=false:=by decide
   obtain ⟨wo,rfl⟩:∃ wo:World,wo=wr:=⟨_,rfl⟩
   go_wp2
   go_loopw [5] (fun i W=>∃ k:Nat,16≤k∧k≤64∧i = .int .i64 k∧Aside0 (W.heap[w.heap.size]?=some (.cells (arrU (wAt bs k)) 170 (0,0)))∧Aside0 (Below w.heap.size w W)) (fun i _=>64 - (intOf i).toNat)
   case atStart => exact ⟨16,by omega,by omega,rfl,HG,HB⟩
   case round =>
    clear hk hlt hb11 HG HB
    obtain ⟨k,hk1,hk2,rfl,HG,HB⟩:=hrel
    by_cases hlt:k < 64
    ·have hb50:decide ((k:Int) < 64)=true:=decide_eq_true (by omega)
     have cc:∀ j:Nat,j < 64->wr.cell? ⟨w.heap.size,j,none⟩=some (.int .u32 ((wAt bs k).getD j 0)):=fun j hj=>(blk_cell HG.out j).trans (arrU_get (by rw [wAt_length];exact hj))
     obtain ⟨a16,g16⟩:∃ a,(wAt bs k).getD (k - 16) 0=a:=⟨_,rfl⟩
     obtain ⟨a15,g15⟩:∃ a,(wAt bs k).getD (k - 15) 0=a:=⟨_,rfl⟩
     obtain ⟨a7,g7⟩:∃ a,(wAt bs k).getD (k - 7) 0=a:=⟨_,rfl⟩
     obtain ⟨a2,g2⟩:∃ a,(wAt bs k).getD (k - 2) 0=a:=⟨_,rfl⟩
     obtain ⟨a0,g0⟩:∃ a,(wAt bs k).getD k 0=a:=⟨_,rfl⟩
     have c16:=cc (k - 16) (by omega)
     have c15:=cc (k - 15) (by omega)
     have c7:=cc (k - 7) (by omega)
     have c2:=cc (k - 2) (by omega)
     have c0:=cc k hlt
     rw [g16] at c16
     rw [g15] at c15
     rw [g7] at c7
     rw [g2] at c2
     rw [g0] at c0
     have G:=am_ (show wAt bs (k+1)=(wAt bs k).set k (wMix a16 a15 a7 a2) from by simp only [wAt];rw [if_neg (by omega),g16,g15,g7,g2])
     clear cc g16 g15 g7 g2 g0
     have hf0:=blk_frozen HG.out k
     have s16:IntKind.i64.wrap ((k:Int) - 16)=(k:Int) - 16:=IntWalk.i64_in _ ⟨by omega,by omega⟩
     have s15:IntKind.i64.wrap ((k:Int) - 15)=(k:Int) - 15:=IntWalk.i64_in _ ⟨by omega,by omega⟩
     have s7:IntKind.i64.wrap ((k:Int) - 7)=(k:Int) - 7:=IntWalk.i64_in _ ⟨by omega,by omega⟩
     have s2:IntKind.i64.wrap ((k:Int) - 2)=(k:Int) - 2:=IntWalk.i64_in _ ⟨by omega,by omega⟩
     have p16:0≤(k:Int) - 16:=by omega
     have p15:0≤(k:Int) - 15:=by omega
     have p7:0≤(k:Int) - 7:=by omega
     have p2:0≤(k:Int) - 2:=by omega
     have q16:16≤(k:Int):=by omega
     have q15:15≤(k:Int):=by omega
     have q7:7≤(k:Int):=by omega
     have q2:2≤(k:Int):=by omega
     have l16:(k:Int) - 16 < 64:=by omega
     have l15:(k:Int) - 15 < 64:=by omega
     have l7:(k:Int) - 7 < 64:=by omega
     have l2:(k:Int) - 2 < 64:=by omega
     have l0:(k:Int) < 64:=by omega
     have t16:((k:Int) - 16).toNat=k - 16:=by omega
     have t15:((k:Int) - 15).toNat=k - 15:=by omega
     have t7:((k:Int) - 7).toNat=k - 7:=by omega
     have t2:((k:Int) - 2).toNat=k - 2:=by omega
     go_wp2
     go_region
     go_wp2_with (first|(go_at_call 171;(first|(with_reducible refine (bits_RotateLeft32.calls _ _ _ _ (rot7 _)).mono ?_)|(with_reducible refine (bits_RotateLeft32.calls _ _ _ _ (rot18 _)).mono ?_)|(with_reducible refine (bits_RotateLeft32.calls _ _ _ _ (rot17 _)).mono ?_)|(with_reducible refine (bits_RotateLeft32.calls _ _ _ _ (rot19 _)).mono ?_));rintro e w' ⟨rfl,⟨nd,rfl⟩⟩))
     go_region
     go_wp2
     go_roundw
     case rel =>
      (repeat apply Exists.intro)
      exact ⟨⟨k+1,by omega,by omega,by go_num,⟨by rw [G.out,← arrU_set];refine blk_set ?_ k _;exact HG.out⟩,⟨by refine Below.setCell (p:=⟨w.heap.size,k,none⟩) ?_ (Nat.le_refl _) _;exact pw_below_drewN HB.out _⟩⟩,rfl⟩
     case measure => simp [intOf];omega
    ·obtain rfl:k=64:=by omega
     have hb50:decide (((64:Nat):Int) < 64)=false:=by decide
     go_wp2
     go_ret
     exact ⟨_,rfl,Nat.le_refl _,HG.out,HB.out⟩
def tS1 (e:Int):Int:=Go.bits .xor .u32 (Go.bits .xor .u32 (rotr e 6) (rotr e 11)) (rotr e 25)
def tS0 (a:Int):Int:=Go.bits .xor .u32 (Go.bits .xor .u32 (rotr a 2) (rotr a 13)) (rotr a 22)
def tT1 (e f g h kc wc:Int):Int:=h+tS1 e+Go.bits .xor .u32 (Go.bits .and .u32 e f) (Go.bits .and .u32 (Go.bits .xor .u32 IntKind.u32.max e) g) + kc+wc
def tMaj (a b c:Int):Int:=Go.bits .xor .u32 (Go.bits .xor .u32 (Go.bits .and .u32 a b) (Go.bits .and .u32 a c)) (Go.bits .and .u32 b c)
def turnStep (kc wc:Int):List Int->List Int
 | [a,b,c,d,e,f,g,h]=>[(tT1 e f g h kc wc+tS0 a+tMaj a b c) % 4294967296,a,b,c,(d+tT1 e f g h kc wc) % 4294967296,e,f,g]
 | l=>l
def vAt (ks ws hs:List Int):Nat->List Int
 | 0=>hs
 | i+1=>turnStep (ks.getD i 0) (ws.getD i 0) (vAt ks ws hs i)
theorem vAt_eight (ks ws hs:List Int) (h:hs.length=8) (k:Nat):(vAt ks ws hs k).length=8:=by
 induction k with
 | zero=>exact h
 | succ k ih =>
  simp only [vAt]
  match vAt ks ws hs k,ih with
  | [a,b,c,d,e,f,g,h],_=>rfl
theorem eight {l:List Int} (h:l.length=8):∃ v0 v1 v2 v3 v4 v5 v6 v7,l=[v0,v1,v2,v3,v4,v5,v6,v7]:=by
 match l,h with
 | [h0,h1,h2,h3,h4,h5,h6,h7],_=>exact ⟨h0,h1,h2,h3,h4,h5,h6,h7,rfl⟩
theorem eight_set {W:World} {gv:Nat} {T:TypeId} {v0 v1 v2 v3 v4 v5 v6 v7:Int} (n0 n1 n2 n3 n4 n5 n6 n7:Int) (h:W.heap[gv]?=some (.cells (arrU [v0,v1,v2,v3,v4,v5,v6,v7]) T (0,0))) :
  ((((((((W.setCell ⟨gv,0,none⟩ (.int .u32 n0)).setCell ⟨gv,1,none⟩ (.int .u32 n1)).setCell ⟨gv,2,none⟩ (.int .u32 n2)).setCell ⟨gv,3,none⟩ (.int .u32 n3)).setCell ⟨gv,4,none⟩ (.int .u32 n4)).setCell ⟨gv,5,none⟩ (.int .u32 n5)).setCell ⟨gv,6,none⟩ (.int .u32 n6)).setCell ⟨gv,7,none⟩ (.int .u32 n7)).heap[gv]?=some (.cells (arrU [n0,n1,n2,n3,n4,n5,n6,n7]) T (0,0)):=by
 have:=blk_set (blk_set (blk_set (blk_set (blk_set (blk_set (blk_set (blk_set h 0 (.int .u32 n0)) 1 (.int .u32 n1)) 2 (.int .u32 n2)) 3 (.int .u32 n3)) 4 (.int .u32 n4)) 5 (.int .u32 n5)) 6 (.int .u32 n6)) 7 (.int .u32 n7)
 simp only [arrU_set] at this
 exact this
theorem eight_below {B:Nat} {w W:World} (h:Below B w W) {gv:Nat} (hg:B≤gv) (u0 u1 u2 u3 u4 u5 u6 u7:Value) :
  Below B w ((((((((W.setCell ⟨gv,0,none⟩ u0).setCell ⟨gv,1,none⟩ u1).setCell ⟨gv,2,none⟩ u2).setCell ⟨gv,3,none⟩ u3).setCell ⟨gv,4,none⟩ u4).setCell ⟨gv,5,none⟩ u5).setCell ⟨gv,6,none⟩ u6).setCell ⟨gv,7,none⟩ u7) :=
 (((((((h.setCell (p:=⟨gv,0,none⟩) hg _).setCell (p:=⟨gv,1,none⟩) hg _).setCell (p:=⟨gv,2,none⟩) hg _).setCell (p:=⟨gv,3,none⟩) hg _).setCell (p:=⟨gv,4,none⟩) hg _).setCell (p:=⟨gv,5,none⟩) hg _).setCell (p:=⟨gv,6,none⟩) hg _).setCell (p:=⟨gv,7,none⟩) hg _
theorem eight_far {W:World} {g gv:Nat} {t:TypeId} {cs:Array Value} (h:W.heap[g]?=some (.cells cs t (0,0))) (hne:g ≠ gv) (u0 u1 u2 u3 u4 u5 u6 u7:Value) :
  ((((((((W.setCell ⟨gv,0,none⟩ u0).setCell ⟨gv,1,none⟩ u1).setCell ⟨gv,2,none⟩ u2).setCell ⟨gv,3,none⟩ u3).setCell ⟨gv,4,none⟩ u4).setCell ⟨gv,5,none⟩ u5).setCell ⟨gv,6,none⟩ u6).setCell ⟨gv,7,none⟩ u7).heap[g]?=some (.cells cs t (0,0)) :=
 blk_far (blk_far (blk_far (blk_far (blk_far (blk_far (blk_far (blk_far h hne _) hne _) hne _) hne _) hne _) hne _) hne _) hne _
def addAt (hs vs:List Int):Nat->List Int
 | 0=>hs
 | i+1=>(addAt hs vs i).set i (((addAt hs vs i).getD i 0+vs.getD i 0) % 4294967296)
theorem addAt_length (hs vs:List Int) (i:Nat):(addAt hs vs i).length=hs.length:=by
 induction i with
 | zero=>rfl
 | succ i ih=>simp [addAt,ih]
def turned (ks bs hs:List Int):List Int:=addAt hs (vAt ks (wAt bs 64) hs 64) 8
set_option maxHeartbeats 4000000 in
theorem turnBlock_calls (gh gk:Nat) (A:Option Addr) (c:Nat) (bs hs ks:List Int) (w:World) (hr:Kd.C (Kd.int .u8) w A bs.length bs) (hl:bs.length=64) (hh:hs.length=8) (hk:ks.length=64)
  (hgh:w.heap[gh]?=some (.cells (arrU hs) 159 (0,0))) (hgk:w.heap[gk]?=some (.cells (arrU ks) 170 (0,0))) :
  Calls Tryz.prog 159 #[.pointer (some ⟨gh,0,none⟩),.slice A bs.length c,.pointer (some ⟨gk,0,none⟩)] w fun e w'=>e = .returned (.tuple #[])∧w.grownBy w' (some gh)∧w'.heap[gh]?=some (.cells (arrU (turned ks bs hs)) 159 (0,0)):=by
 have HL:=am_ hl
 have HK:=am_ hk
 have HGH:=am_ hgh
 have HGK:=am_ hgk
 have HR:=am_ hr
 obtain ⟨h0,h1,h2,h3,h4,h5,h6,h7,rfl⟩:=eight hh
 clear hr hl hh hk hgh hgk
 go_enter Tryz.func159,Tryz.ntmps159
 go_wp2_with (go_at_call 170;(with_reducible refine (wordsOf_calls _ _ bs _ HR.out HL.out).mono ?_);rintro e w1 ⟨gw,rfl,hw1,hw2,hb⟩;have HW1:=am_ hw1;have HW2:=am_ hw2;have HB:=am_ hb;have HGH1:=am_ (blk_below HGH.out hb);have HGK1:=am_ (blk_below HGK.out hb);clear hw1 hw2 hb;have q0:=blk_cell HGH1.out 0;have q1:=blk_cell HGH1.out 1;have q2:=blk_cell HGH1.out 2;have q3:=blk_cell HGH1.out 3;have q4:=blk_cell HGH1.out 4;have q5:=blk_cell HGH1.out 5;have q6:=blk_cell HGH1.out 6;have q7:=blk_cell HGH1.out 7;simp only [arrU,nums,List.map_cons,List.map_nil,List.getElem?_toArray,List.getElem?_cons_zero,List.getElem?_cons_succ] at q0 q1 q2 q3 q4 q5 q6 q7)
 clear q0 q1 q2 q3 q4 q5 q6 q7
 have HGH2:=am_ (blk_alloc HGH1.out (.cells #[.int .u32 h0,.int .u32 h1,.int .u32 h2,.int .u32 h3,.int .u32 h4,.int .u32 h5,.int .u32 h6,.int .u32 h7] 159))
 have HGK2:=am_ (blk_alloc HGK1.out (.cells #[.int .u32 h0,.int .u32 h1,.int .u32 h2,.int .u32 h3,.int .u32 h4,.int .u32 h5,.int .u32 h6,.int .u32 h7] 159))
 have HW22:=am_ (blk_alloc HW2.out (.cells #[.int .u32 h0,.int .u32 h1,.int .u32 h2,.int .u32 h3,.int .u32 h4,.int .u32 h5,.int .u32 h6,.int .u32 h7] 159))
 have HN:=am_ (blk_new w1 (.cells #[.int .u32 h0,.int .u32 h1,.int .u32 h2,.int .u32 h3,.int .u32 h4,.int .u32 h5,.int .u32 h6,.int .u32 h7] 159))
 have HB2:=am_ (HB.out.alloc HB.out.size (.cells #[.int .u32 h0,.int .u32 h1,.int .u32 h2,.int .u32 h3,.int .u32 h4,.int .u32 h5,.int .u32 h6,.int .u32 h7] 159))
 obtain ⟨gv,hgv⟩:∃ gv,w1.heap.size=gv:=⟨_,rfl⟩
 rw [hgv] at HN ⊢
 have HV:=am_ (show w.heap.size≤gv from by rw [← hgv];exact HB.out.size)
 clear hgv
 generalize w1.alloc (.cells #[.int .u32 h0,.int .u32 h1,.int .u32 h2,.int .u32 h3,.int .u32 h4,.int .u32 h5,.int .u32 h6,.int .u32 h7] 159)=w2 at HGH2 HGK2 HW22 HN HB2 ⊢
 clear HGH1 HGK1 HW2 HB
 go_loopw [22] (fun i W=>∃ k:Nat,k≤64∧i = .int .i64 k∧Aside0 (W.heap[gv]?=some (.cells (arrU (vAt ks (wAt bs 64) [h0,h1,h2,h3,h4,h5,h6,h7] k)) 159 (0,0)))∧Aside0 (Below w.heap.size w W)∧Aside0 (W.heap[gw]?=some (.cells (arrU (wAt bs 64)) 170 (0,0)))) (fun i _=>64 - (intOf i).toNat)
 case atStart => exact ⟨0,by omega,rfl,HN,HB2,HW22⟩
 case round =>
  clear HN HB2 HW22
  obtain ⟨k,hk,rfl,HN,HB,HW⟩:=hrel
  by_cases hlt:k < 64
  ·obtain ⟨v0,v1,v2,v3,v4,v5,v6,v7,hv⟩:∃ v0 v1 v2 v3 v4 v5 v6 v7,vAt ks (wAt bs 64) [h0,h1,h2,h3,h4,h5,h6,h7] k=[v0,v1,v2,v3,v4,v5,v6,v7]:=eight (vAt_eight _ _ _ rfl k)
   have HN2:=HN.out
   rw [hv] at HN2
   have HNN:=am_ HN2
   have q0:=blk_cell HN2 0
   have q1:=blk_cell HN2 1
   have q2:=blk_cell HN2 2
   have q3:=blk_cell HN2 3
   have q4:=blk_cell HN2 4
   have q5:=blk_cell HN2 5
   have q6:=blk_cell HN2 6
   have q7:=blk_cell HN2 7
   simp only [arrU,nums,List.map_cons,List.map_nil,List.getElem?_toArray,List.getElem?_cons_zero,List.getElem?_cons_succ] at q0 q1 q2 q3 q4 q5 q6 q7
   have f0:=blk_frozen HN2 0
   have f1:=blk_frozen HN2 1
   have f2:=blk_frozen HN2 2
   have f3:=blk_frozen HN2 3
   have f4:=blk_frozen HN2 4
   have f5:=blk_frozen HN2 5
   have f6:=blk_frozen HN2 6
   have f7:=blk_frozen HN2 7
   clear HN2
   have hkc:wr.cell? ⟨gk,k,none⟩=some (.int .u32 (ks.getD k 0)):=(blk_cell ((HB.out.block gk (blk_lt HGK.out)).trans HGK.out) k).trans (arrU_get (by rw [HK.out];omega))
   have hwc:wr.cell? ⟨gw,k,none⟩=some (.int .u32 ((wAt bs 64).getD k 0)):=(blk_cell HW.out k).trans (arrU_get (by rw [wAt_length];omega))
   obtain ⟨kc,gkc⟩:∃ a,ks.getD k 0=a:=⟨_,rfl⟩
   obtain ⟨wc,gwc⟩:∃ a,(wAt bs 64).getD k 0=a:=⟨_,rfl⟩
   rw [gkc] at hkc
   rw [gwc] at hwc
   have HV1:=am_ (show vAt ks (wAt bs 64) [h0,h1,h2,h3,h4,h5,h6,h7] (k+1)=turnStep kc wc [v0,v1,v2,v3,v4,v5,v6,v7] from by rw [← hv,← gkc,← gwc];rfl)
   clear hv gkc gwc
   have b22:decide ((k:Int) < 64)=true:=decide_eq_true (by omega)
   have l64:(k:Int) < 64:=by omega
   go_wp2
   go_region
   go_wp2_with (first|(go_at_call 171;(first|(with_reducible refine (bits_RotateLeft32.calls _ _ _ _ (rot6 _)).mono ?_)|(with_reducible refine (bits_RotateLeft32.calls _ _ _ _ (rot11 _)).mono ?_)|(with_reducible refine (bits_RotateLeft32.calls _ _ _ _ (rot25 _)).mono ?_));rintro e w' ⟨rfl,⟨nd,rfl⟩⟩))
   go_region
   go_wp2_with (first|(go_at_call 171;(first|(with_reducible refine (bits_RotateLeft32.calls _ _ _ _ (rot2 _)).mono ?_)|(with_reducible refine (bits_RotateLeft32.calls _ _ _ _ (rot13 _)).mono ?_)|(with_reducible refine (bits_RotateLeft32.calls _ _ _ _ (rot22 _)).mono ?_));rintro e w' ⟨rfl,⟨nd,rfl⟩⟩))
   go_roundw
   case rel =>
    refine ⟨k+1,by omega,by go_num,⟨?_⟩,⟨?_⟩,⟨?_⟩⟩
    ·rw [HV1.out]
     exact eight_set _ _ _ _ _ _ _ _ (blk_drewN HNN.out _)
    ·exact eight_below (pw_below_drewN HB.out _) HV.out _ _ _ _ _ _ _ _
    ·exact eight_far (blk_drewN HW.out _) (blk_ne HW.out HNN.out (by decide)) _ _ _ _ _ _ _ _
   case measure => simp [intOf];omega
  ·obtain rfl:k=64:=by omega
   have b22:decide (((64:Nat):Int) < 64)=false:=by decide
   obtain ⟨wo,rfl⟩:∃ wo:World,wo=wr:=⟨_,rfl⟩
   go_wp2
   generalize hvv:vAt ks (wAt bs 64) [h0,h1,h2,h3,h4,h5,h6,h7] 64=vs at HN
   have hvl:vs.length=8:=by rw [← hvv];exact vAt_eight _ _ _ rfl _
   have HVV:=am_ hvv
   have HVL:=am_ hvl
   clear hvv hvl
   go_loopw [109] (fun i W=>∃ k:Nat,k≤8∧i = .int .i64 k∧Aside0 (W.heap[gh]?=some (.cells (arrU (addAt [h0,h1,h2,h3,h4,h5,h6,h7] vs k)) 159 (0,0)))∧Aside0 (W.heap[gv]?=some (.cells (arrU vs) 159 (0,0)))∧Aside0 (w.grownBy W (some gh))) (fun i _=>8 - (intOf i).toNat)
   case atStart => exact ⟨0,by omega,rfl,⟨(HB.out.block gh (blk_lt HGH.out)).trans HGH.out⟩,HN,⟨grown_of_below HB.out _⟩⟩
   case round =>
    clear hlt hk b22 HN HB HW
    obtain ⟨k,hk,rfl,HH,HN,HB⟩:=hrel
    by_cases hlt:k < 8
    ·have hne:gh ≠ gv:=by have:=blk_lt HGH.out;have:=HV.out;omega
     have HNE:=am_ hne
     have ch:wr.cell? ⟨gh,k,none⟩=some (.int .u32 ((addAt [h0,h1,h2,h3,h4,h5,h6,h7] vs k).getD k 0)):=(blk_cell HH.out k).trans (arrU_get (by rw [addAt_length];exact hlt))
     have cv:wr.cell? ⟨gv,k,none⟩=some (.int .u32 (vs.getD k 0)):=(blk_cell HN.out k).trans (arrU_get (by rw [HVL.out];exact hlt))
     obtain ⟨a,ga⟩:∃ a,(addAt [h0,h1,h2,h3,h4,h5,h6,h7] vs k).getD k 0=a:=⟨_,rfl⟩
     obtain ⟨b,gb⟩:∃ a,vs.getD k 0=a:=⟨_,rfl⟩
     rw [ga] at ch
     rw [gb] at cv
     have G:=am_ (show addAt [h0,h1,h2,h3,h4,h5,h6,h7] vs (k+1)=(addAt [h0,h1,h2,h3,h4,h5,h6,h7] vs k).set k ((a+b) % 4294967296) from by rw [← ga,← gb];rfl)
     have fh:=blk_frozen HH.out k
     have b110:decide ((k:Int) < 8)=true:=decide_eq_true (by omega)
     have l8:(k:Int) < 8:=by omega
     clear ga gb hne
     go_wp2
     go_region
     go_wp2
     go_roundw
     case rel =>
      refine ⟨k+1,by omega,by go_num,⟨?_⟩,⟨?_⟩,⟨?_⟩⟩
      ·rw [G.out,← arrU_set]
       exact blk_set (blk_drew HH.out) k _
      ·exact blk_far (blk_drew HN.out) HNE.out.symm _
      ·exact ⟨HB.out.os,HB.out.tape,HB.out.output,by simpa [World.setCell] using HB.out.size,fun i hi hn=>(Below.heap_setCell _ _ _ _ (fun e=>hn (by rw [e]))).trans (HB.out.block i hi hn)⟩
     case measure => simp [intOf];omega
    ·obtain rfl:k=8:=by omega
     have b110:decide (((8:Nat):Int) < 8)=false:=by decide
     go_wp2
     refine bodyPost_end (results_none rfl _ _ _) rfl ?_
     refine ⟨rfl,HB.out,?_⟩
     unfold turned
     rw [HVV.out]
     exact HH.out
def slices_Clone_byte_byte.f (l0:List Int):Option (List Int):=if l0.length≤140737488355328 then some l0 else none
theorem slices_Clone_byte_byte.info:(Tryz.prog.info? 5).map (fun i=>(i.zero,i.size,i.bytes))=some (some (.int .u8 0),1,1):=by kernel_rfl
set_option maxHeartbeats 1000000 in
theorem slices_Clone_byte_byte.calls (A0:Option Addr) (c0:Nat) (l0:List Int) (r:List Int) (w:World) (hr0:Kd.C (Kd.int .u8) w A0 l0.length l0) (hc0:l0.length≤c0) (h:slices_Clone_byte_byte.f l0=some r) :
  Calls Tryz.prog 122 #[.slice A0 l0.length c0] w fun e w'=>∃ v0_:Value,e = .returned (v0_)∧Kd.R (Kd.int .u8) 5 w' w.heap.size (fun _=>True) v0_ r∧Below w.heap.size w w':=by
 unfold slices_Clone_byte_byte.f at h
 by_cases hl:l0.length≤140737488355328
 ·rw [if_pos hl] at h
  obtain rfl:=Option.some.inj h
  have LM:=am_ hl
  have HR0:=am_ hr0
  have HC0:=am_ hc0
  have hn:=fun W:World=>Lib.run_eql_slice_nil (P:=Tryz.prog) W 27 5 A0 l0.length c0 0 0 Tryz.underlying27
  clear hl h hc0
  cases A0 with
  | none =>
   have h0:l0=[]:=by
    rcases Nat.eq_zero_or_pos l0.length with hz|hz
    ·exact List.eq_nil_of_length_eq_zero hz
    ·obtain ⟨ad,he,_⟩:=hr0.2.2 hz
     cases he
   subst h0
   clear hr0 hn
   have hn2:=fun W:World=>Lib.run_eql_slice_nil (P:=Tryz.prog) W 27 5 none 0 c0 0 0 Tryz.underlying27
   go_enter Tryz.func122,Tryz.ntmps122
   go_wp2
   go_ret
   exact ⟨_,rfl,Kd.R_nil _ _ _ _ _,Below.refl _ _⟩
  | some ad =>
   clear hr0
   go_enter Tryz.func122,Tryz.ntmps122
   go_wp2_with (first|((with_reducible refine gate_dst (N:=5) rfl ?_);refine Kd.R_lit (Kd.int .u8) _ 5 ?hg (N:=5) ?hd (w0:=w) (xs:=([]:List Int)) (inner:=[]) (ok:=fun _=>True) (okp:=fun _=>True) ?hr ?hp (fun _ hk=>hk) trivial (Below.refl _ _) (Nat.le_refl _) (by simp) ?_;(case hd=>rfl);(case hg=>rfl);(case hr=>first|(go_simp;done)|(go_simp;rfl));(case hp=>exact (Reps.none _ _));intro v1 w4 ho5 hb hg_ hnew_;clear hg_ hnew_;have HO:=am_ ho5;have HB:=am_ hb;clear ho5 hb)|((with_reducible refine gate_builtin (b:=.append) (xs:=#[.tmp 5,.tmp 6]) rfl ?_);at_builtin;refine Kd.R_append_rows (Kd.int .u8) (w0:=w) w.heap.size rfl (.tmp 5) (.tmp 6) 27 5 (.int .u8 0) 1 rfl Tryz.underlying27 slices_Clone_byte_byte.info rfl (by decide) (by omega) v1 [] l0 _ _ _ (fun _=>True) (fun _=>False) rfl rfl ?aO ?aR (fun _ _ h=>h) (fun _ h=>h.elim) ?aF ?aB ?aS ?aL ?_;(case aR=>exact Kd.C_below HR0.out HB.out);(case aB=>exact HB.out);(case aF=>exact (fun _ _=>trivial));(case aO=>exact HO.out);(case aS=>exact HB.out.size);(case aL=>have:=LM.out;simp only [List.length_nil];omega);intro v2 w6 ho hb hg hat;have HO2:=am_ ho;have HB2:=am_ hb;clear ho hb hg hat))
   go_ret
   exact ⟨_,rfl,by simpa using HO2.out,HB2.out⟩
 ·rw [if_neg hl] at h
  cases h
mutual
def impl_Padded.l0:Nat->List Int->List Int->Option (List Int)
 | 0,_,_=>none
 | k+1,x0,x3=>if (Int.tmod (wrap64 ((x3.length:Int) + 8)) 64)=0 then (impl_Padded.l1 k x3 (wrap64 (8 * (x0.length:Int))) 7) else (if x3.length < 140737488355328 then (impl_Padded.l0 k x0 (x3 ++ [0])) else (none))
def impl_Padded.l1:Nat->List Int->Int->Int->Option (List Int)
 | 0,_,_,_=>none
 | k+1,x3,x4,x5=>if x5 ≥ 0 then (if 0≤(IntKind.u64.wrap (wrap64 (8 * x5))) then (if x3.length < 140737488355328 then (impl_Padded.l1 k (x3 ++ [(shr .i64 x4 (IntKind.u64.wrap (wrap64 (8 * x5)))) % 256]) x4 (wrap64 (x5 - 1))) else (none)) else (none)) else (some x3)
end
def impl_Padded.f (k:Nat) (l0:List Int):Option (List Int):=(slices_Clone_byte_byte.f l0).bind fun t1=>(if t1.length < 140737488355328 then (impl_Padded.l0 k l0 (t1 ++ [128])) else (none))
theorem impl_Padded.calls (k:Nat) (A0:Option Addr) (c0:Nat) (l0:List Int) (r:List Int) (w:World) (hr0:Kd.C (Kd.int .u8) w A0 l0.length l0) (hc0:l0.length≤c0) (h:impl_Padded.f k l0=some r) :
  Calls Tryz.prog 158 #[.slice A0 l0.length c0] w fun e w'=>∃ v0_:Value,e = .returned (v0_)∧Kd.R (Kd.int .u8) 5 w' w.heap.size (fun _=>True) v0_ r∧Below w.heap.size w w':=by
 have HR0:=am_ hr0
 have HC0:=am_ hc0
 clear hr0 hc0
 have HB:=h0_ w
 have H:((slices_Clone_byte_byte.f l0).bind fun t1=>(if t1.length < 140737488355328 then (impl_Padded.l0 k l0 (t1 ++ [128])) else (none)))=some r:=h
 clear h
 replace H:=bi_ H;obtain ⟨t1,A2,H⟩:=H
 replace H:=ip_ H;obtain ⟨c3,H⟩:=H
 have LMc3:=am_ c3
 clear c3
 obtain ⟨y604,hy4⟩:∃ y_:List Int,y_=(t1 ++ [128]):=⟨_,rfl⟩
 replace H:(impl_Padded.l0 k l0 y604)=some r:=yh_ hy4 H
 have Ny4:=am_ hy4
 clear hy4
 have H':=am_ H
 clear H
 go_enter Tryz.func158,Tryz.ntmps158
 go_wp2_with (first|((with_reducible refine gq_ 122 7 ?_);refine gc_ 7 Tryz.func122 (slices_Clone_byte_byte.calls _ _ l0 t1 _ (cr_ HR0.out) HC0.out A2.out) ?_;rintro e w4 ⟨v2,rfl,ho0,hb⟩;refine ⟨_,rfl,?_⟩;have HO3:=rlo_ ho0 HB;replace HB:=ss_ HB hb;clear hb ho0)|((with_reducible refine gate_builtin (b:=.append) (xs:=#[.tmp 7,.tmp 8]) rfl ?_);at_builtin;refine Kd.R_append (Kd.int .u8) (w0:=w) w.heap.size rfl (.tmp 7) (.tmp 8) 27 5 (.int .u8 0) 1 rfl Tryz.underlying27 info5 rfl (by decide) (by omega) v2 t1 128 [.int .u8 128] (fun _=>True) (fun _=>False) rfl rfl ?aP (fun _ hk=>hk.elim) ?aF ?aO ?aB ?aS ?aL ?_;(case aP=>exact rfl);(case aB=>exact (bw_ HB));(case aF=>exact (fun _ _=>trivial));(case aO=>exact (kr_ HO3.out));(case aS=>exact (sz_ HB));(case aL=>have:=LMc3.out;omega);intro v605 w5 ho hb hg hat;rw [← Ny4.out] at ho;replace HB:=am_ hb;have HO6:=am_ ho;clear HO3;clear ho hb hg hat))
 go_loopg [3] k (fun kq v3 w'=>∃ (x3_1:List Int),Aside0 (impl_Padded.l0 kq l0 x3_1=some r)∧Aside0 (kq≤k)∧Aside0 (Kd.R (Kd.int .u8) 5 w' w.heap.size (fun _=>True) v3 x3_1)∧Aside0 (Below w.heap.size w w'))
 case atStart => exact ⟨(y604),H',⟨Nat.le_refl _⟩,⟨kr_ HO6.out⟩,⟨bw_ HB⟩⟩
 case round =>
  clear H'
  try clear c3
  obtain ⟨x3_1,HA,HK1,HO_3,HB⟩:=hrel
  cases gk with
  | zero=>exact absurd HA.out (by simp [impl_Padded.l0])
  | succ k1 =>
   have H:=HA.out
   clear HA
   simp only [impl_Padded.l0] at H
   replace H:=it_ H;obtain ⟨c6,H⟩|⟨c6,H⟩:=H
   ·have c6b0:((Int.tmod (wrap64 ((x3_1.length:Int) + 8)) 64) == 0)=true:=beq_iff_eq.mpr c6
    have c6b1:((Int.tmod (wrap64 ((x3_1.length:Int) + 8)) 64) != 0)=false:=bne_eq_false_iff_eq.mpr c6
    clear c6
    have H':=am_ H
    clear H
    obtain ⟨Ao7,co7,eo7⟩:=Kd.R_slice HO_3.out
    subst eo7
    go_wp2
    go_loopg [3,5] k1 (fun kq v3 v5 w'=>∃ (x3_2:List Int) (x5_2:Int),v5 = .int .i64 x5_2∧Aside0 (impl_Padded.l1 kq x3_2 (wrap64 (8 * (l0.length:Int))) x5_2=some r)∧Aside0 (kq≤k1)∧Aside0 (Kd.R (Kd.int .u8) 5 w' w.heap.size (fun _=>True) v3 x3_2)∧Aside0 (Below w.heap.size w w'))
    case atStart => exact ⟨(x3_1),(7),e1_,H',⟨Nat.le_refl _⟩,⟨kr_ HO_3.out⟩,⟨bw_ HB⟩⟩
    case round =>
     clear H'
     try clear c1
     try clear p2
     try clear c3
     try clear c6
     try clear c6b0
     try clear c6b1
     obtain ⟨x3_2,x5_2,rfl,HA,HK2,HO_3,HB⟩:=hrel
     cases gk with
     | zero=>exact absurd HA.out (by simp [impl_Padded.l1])
     | succ k2 =>
      have H:=HA.out
      clear HA
      simp only [impl_Padded.l1] at H
      replace H:=it_ H;obtain ⟨c8,H⟩|⟨c8,H⟩:=H
      ·have c8b0:decide (0≤x5_2)=true:=decide_eq_true c8
       clear c8
       generalize hji9:(IntKind.u64.wrap (wrap64 (8 * x5_2)))=ji9 at H
       replace H:=ip_ H;obtain ⟨c10,H⟩:=H
       have c10b0:=eq_true c10
       have c10b1:=decide_eq_true c10
       clear c10
       generalize hji11:(shr .i64 (wrap64 (8 * (l0.length:Int))) (ji9))=ji11 at H
       have hji11_:((wrap64 (8 * (l0.length:Int))) / 2 ^ min (ji9).toNat 64)=ji11:=hji11
       have hji11z:(ji9)≤64->((wrap64 (8 * (l0.length:Int))) / 2 ^ (ji9).toNat)=ji11:=shr_small hji11
       replace H:=ip_ H;obtain ⟨c12,H⟩:=H
       have LMc12:=am_ c12
       clear c12
       obtain ⟨y10,hy10⟩:∃ y_:List Int,y_=(x3_2 ++ [(ji11) % 256]):=⟨_,rfl⟩
       replace H:(impl_Padded.l1 k2 y10 (wrap64 (8 * (l0.length:Int))) (wrap64 (x5_2 - 1)))=some r:=yh_ hy10 H
       have Ny10:=am_ hy10
       clear hy10
       have H':=am_ H
       clear H
       go_wp2_with (first|((with_reducible refine gate_builtin (b:=.append) (xs:=#[.tmp 25,.tmp 32]) rfl ?_);at_builtin;refine Kd.R_append (Kd.int .u8) (w0:=w) w.heap.size rfl (.tmp 25) (.tmp 32) 27 5 (.int .u8 0) 1 rfl Tryz.underlying27 info5 rfl (by decide) (by omega) u3 x3_2 ((ji11) % 256) [.int .u8 ((ji11) % 256)] (fun _=>True) (fun _=>False) rfl rfl ?aP (fun _ hk=>hk.elim) ?aF ?aO ?aB ?aS ?aL ?_;(case aP=>exact rfl);(case aB=>exact (bw_ HB));(case aF=>exact (fun _ _=>trivial));(case aO=>exact (kr_ HO_3.out));(case aS=>exact (sz_ HB));(case aL=>have:=LMc12.out;omega);intro v11 w13 ho hb hg hat;rw [← Ny10.out] at ho;replace HB:=am_ hb;have HO12:=am_ ho;clear HO_3;clear ho hb hg hat))
       go_roundg k2
       case measure => have:=HK1.out;have:=HK2.out;omega
       case rel => exact ⟨(y10),(wrap64 (x5_2 - 1)),e1_,H',⟨by have:=HK1.out;have:=HK2.out;omega⟩,⟨kr_ HO12.out⟩,⟨bw_ HB⟩⟩
      ·have c8b0:decide (0≤x5_2)=false:=decide_eq_false c8
       clear c8
       obtain rfl:=Option.some.inj H
       go_wp2
       go_ret
       exact ⟨_,e2_,kr_ HO_3.out,bw_ HB⟩
   ·have c6b0:((Int.tmod (wrap64 ((x3_1.length:Int) + 8)) 64) == 0)=false:=beq_eq_false_iff_ne.mpr c6
    have c6b1:((Int.tmod (wrap64 ((x3_1.length:Int) + 8)) 64) != 0)=true:=bne_iff_ne.mpr c6
    replace H:=ip_ H;obtain ⟨c14,H⟩:=H
    have LMc14:=am_ c14
    clear c14
    obtain ⟨y607,hy7⟩:∃ y_:List Int,y_=(x3_1 ++ [0]):=⟨_,rfl⟩
    replace H:(impl_Padded.l0 k1 l0 y607)=some r:=yh_ hy7 H
    have Ny7:=am_ hy7
    clear hy7
    have H':=am_ H
    clear H
    obtain ⟨Ao15,co15,eo15⟩:=Kd.R_slice HO_3.out
    subst eo15
    go_wp2_with (first|((with_reducible refine gate_builtin (b:=.append) (xs:=#[.tmp 15,.tmp 16]) rfl ?_);at_builtin;refine Kd.R_append (Kd.int .u8) (w0:=w) w.heap.size rfl (.tmp 15) (.tmp 16) 27 5 (.int .u8 0) 1 rfl Tryz.underlying27 info5 rfl (by decide) (by omega) (.slice Ao15 x3_1.length co15) x3_1 0 [.int .u8 0] (fun _=>True) (fun _=>False) rfl rfl ?aP (fun _ hk=>hk.elim) ?aF ?aO ?aB ?aS ?aL ?_;(case aP=>exact rfl);(case aB=>exact (bw_ HB));(case aF=>exact (fun _ _=>trivial));(case aO=>exact (kr_ HO_3.out));(case aS=>exact (sz_ HB));(case aL=>have:=LMc14.out;omega);intro v8 w16 ho hb hg hat;rw [← Ny7.out] at ho;replace HB:=am_ hb;have HO9:=am_ ho;clear HO_3;clear ho hb hg hat))
    go_roundg k1
    case measure => have:=HK1.out;omega
    case rel => exact ⟨(y607),H',⟨by have:=HK1.out;omega⟩,⟨kr_ HO9.out⟩,⟨bw_ HB⟩⟩
mutual
def spec_Padded.l0:Nat->List Int->List Int->Option (List Int)
 | 0,_,_=>none
 | k+1,x0,x3=>if ((x3.length:Int) % 64)=56 then (spec_Padded.l1 k x3 (wrap64 ((x0.length:Int) * 8)) 56) else (if x3.length < 140737488355328 then (spec_Padded.l0 k x0 (x3 ++ [0])) else (none))
def spec_Padded.l1:Nat->List Int->Int->Int->Option (List Int)
 | 0,_,_,_=>none
 | k+1,x3,x4,x5=>if x5 ≥ 0 then (if 0≤(IntKind.u64.wrap (x5)) then (if x3.length < 140737488355328 then (spec_Padded.l1 k (x3 ++ [(shr .i64 x4 (IntKind.u64.wrap (x5))) % 256]) x4 (wrap64 (x5 - 8))) else (none)) else (none)) else (some x3)
end
def spec_Padded.f (k:Nat) (l0:List Int):Option (List Int):=(some (([]:List Int):List Int)).bind fun y601=>(if y601.length+l0.length < 140737488355328 then ((some (y601 ++ l0:List Int)).bind fun y604=>(if y604.length < 140737488355328 then (spec_Padded.l0 k l0 (y604 ++ [128])) else (none))) else (none))
theorem spec_Padded.calls (k:Nat) (A0:Option Addr) (c0:Nat) (l0:List Int) (r:List Int) (w:World) (hr0:Kd.C (Kd.int .u8) w A0 l0.length l0) (hc0:l0.length≤c0) (h:spec_Padded.f k l0=some r) :
  Calls Tryz.prog 140 #[.slice A0 l0.length c0] w fun e w'=>∃ v0_:Value,e = .returned (v0_)∧Kd.R (Kd.int .u8) 5 w' w.heap.size (fun _=>True) v0_ r∧Below w.heap.size w w':=by
 have HR0:=am_ hr0
 have HC0:=am_ hc0
 clear hr0 hc0
 have HB:=h0_ w
 have H:((some (([]:List Int):List Int)).bind fun y601=>(if y601.length+l0.length < 140737488355328 then ((some (y601 ++ l0:List Int)).bind fun y604=>(if y604.length < 140737488355328 then (spec_Padded.l0 k l0 (y604 ++ [128])) else (none))) else (none)))=some r:=h
 clear h
 obtain ⟨y601,Ny1,H⟩:=sb_ (([]:List Int)) H
 replace H:=ip_ H;obtain ⟨c2,H⟩:=H
 have LMc2:=am_ c2
 clear c2
 obtain ⟨y604,Ny4,H⟩:=sb_ (y601 ++ l0) H
 replace H:=ip_ H;obtain ⟨c3,H⟩:=H
 have LMc3:=am_ c3
 clear c3
 obtain ⟨y607,hy7⟩:∃ y_:List Int,y_=(y604 ++ [128]):=⟨_,rfl⟩
 replace H:(spec_Padded.l0 k l0 y607)=some r:=yh_ hy7 H
 have Ny7:=am_ hy7
 clear hy7
 have H':=am_ H
 clear H
 go_enter Tryz.func140,Tryz.ntmps140
 go_wp2_with (first|((with_reducible refine gd_ 6 ?_);refine rl_ (Kd.int .u8) 5 6 ([]:List Int) [] ?_;intro v2 w4 ho5 hb hg_ hnew_;clear hg_ hnew_;(first|rw [← Ny1.out] at ho5|(simp only [Int.reduceToNat] at ho5;rw [← Ny1.out] at ho5));have HO3:=rlo_ ho5 HB;replace HB:=ss_ HB hb;clear hb ho5)|((with_reducible refine gate_builtin (b:=.append) (xs:=#[.tmp 6,.tmp 7]) rfl ?_);at_builtin;refine Kd.R_append_rows (Kd.int .u8) (w0:=w) w.heap.size rfl (.tmp 6) (.tmp 7) 27 5 (.int .u8 0) 1 rfl Tryz.underlying27 info5 rfl (by decide) (by omega) v2 y601 l0 _ _ _ (fun _=>True) (fun _=>False) rfl rfl ?aO ?aR (fun _ _ h=>h) (fun _ h=>h.elim) ?aF ?aB ?aS ?aL ?_;(case aR=>exact cb_ HR0 HB);(case aB=>exact (bw_ HB));(case aF=>exact (fun _ _=>trivial));(case aO=>exact (kr_ HO3.out));(case aS=>exact (sz_ HB));(case aL=>have:=LMc2.out;omega);intro v605 w6 ho hb hg hat;rw [← Ny4.out] at ho;replace HB:=am_ hb;have HO6:=am_ ho;clear HO3;clear ho hb hg hat)|((with_reducible refine gate_builtin (b:=.append) (xs:=#[.tmp 8,.tmp 9]) rfl ?_);at_builtin;refine Kd.R_append (Kd.int .u8) (w0:=w) w.heap.size rfl (.tmp 8) (.tmp 9) 27 5 (.int .u8 0) 1 rfl Tryz.underlying27 info5 rfl (by decide) (by omega) v605 y604 128 [.int .u8 128] (fun _=>True) (fun _=>False) rfl rfl ?aP (fun _ hk=>hk.elim) ?aF ?aO ?aB ?aS ?aL ?_;(case aP=>exact rfl);(case aB=>exact (bw_ HB));(case aF=>exact (fun _ _=>trivial));(case aO=>exact (kr_ HO6.out));(case aS=>exact (sz_ HB));(case aL=>have:=LMc3.out;omega);intro v8 w7 ho hb hg hat;rw [← Ny7.out] at ho;replace HB:=am_ hb;have HO9:=am_ ho;clear HO6;clear ho hb hg hat))
 go_loopg [3] k (fun kq v3 w'=>∃ (x3_1:List Int),Aside0 (spec_Padded.l0 kq l0 x3_1=some r)∧Aside0 (kq≤k)∧Aside0 (Kd.R (Kd.int .u8) 5 w' w.heap.size (fun _=>True) v3 x3_1)∧Aside0 (Below w.heap.size w w'))
 case atStart => exact ⟨(y607),H',⟨Nat.le_refl _⟩,⟨kr_ HO9.out⟩,⟨bw_ HB⟩⟩
 case round =>
  clear H'
  try clear c2
  try clear c3
  obtain ⟨x3_1,HA,HK1,HO_3,HB⟩:=hrel
  cases gk with
  | zero=>exact absurd HA.out (by simp [spec_Padded.l0])
  | succ k1 =>
   have H:=HA.out
   clear HA
   simp only [spec_Padded.l0] at H
   replace H:=it_ H;obtain ⟨c8,H⟩|⟨c8,H⟩:=H
   ·have c8b0:(((x3_1.length:Int) % 64) == 56)=true:=beq_iff_eq.mpr c8
    have c8b1:(((x3_1.length:Int) % 64) != 56)=false:=bne_eq_false_iff_eq.mpr c8
    clear c8
    have H':=am_ H
    clear H
    obtain ⟨Ao9,co9,eo9⟩:=Kd.R_slice HO_3.out
    subst eo9
    go_wp2
    go_loopg [3,5] k1 (fun kq v3 v5 w'=>∃ (x3_2:List Int) (x5_2:Int),v5 = .int .i64 x5_2∧Aside0 (spec_Padded.l1 kq x3_2 (wrap64 ((l0.length:Int) * 8)) x5_2=some r)∧Aside0 (kq≤k1)∧Aside0 (Kd.R (Kd.int .u8) 5 w' w.heap.size (fun _=>True) v3 x3_2)∧Aside0 (Below w.heap.size w w'))
    case atStart => exact ⟨(x3_1),(56),e1_,H',⟨Nat.le_refl _⟩,⟨kr_ HO_3.out⟩,⟨bw_ HB⟩⟩
    case round =>
     clear H'
     try clear c1
     try clear c2
     try clear p2
     try clear c3
     try clear c8
     try clear c8b0
     try clear c8b1
     obtain ⟨x3_2,x5_2,rfl,HA,HK2,HO_3,HB⟩:=hrel
     cases gk with
     | zero=>exact absurd HA.out (by simp [spec_Padded.l1])
     | succ k2 =>
      have H:=HA.out
      clear HA
      simp only [spec_Padded.l1] at H
      replace H:=it_ H;obtain ⟨c10,H⟩|⟨c10,H⟩:=H
      ·have c10b0:decide (0≤x5_2)=true:=decide_eq_true c10
       clear c10
       generalize hji11:(IntKind.u64.wrap (x5_2))=ji11 at H
       replace H:=ip_ H;obtain ⟨c12,H⟩:=H
       have c12b0:=eq_true c12
       have c12b1:=decide_eq_true c12
       clear c12
       generalize hji13:(shr .i64 (wrap64 ((l0.length:Int) * 8)) (ji11))=ji13 at H
       have hji13_:((wrap64 ((l0.length:Int) * 8)) / 2 ^ min (ji11).toNat 64)=ji13:=hji13
       have hji13z:(ji11)≤64->((wrap64 ((l0.length:Int) * 8)) / 2 ^ (ji11).toNat)=ji13:=shr_small hji13
       replace H:=ip_ H;obtain ⟨c14,H⟩:=H
       have LMc14:=am_ c14
       clear c14
       obtain ⟨y13,hy13⟩:∃ y_:List Int,y_=(x3_2 ++ [(ji13) % 256]):=⟨_,rfl⟩
       replace H:(spec_Padded.l1 k2 y13 (wrap64 ((l0.length:Int) * 8)) (wrap64 (x5_2 - 8)))=some r:=yh_ hy13 H
       have Ny13:=am_ hy13
       clear hy13
       have H':=am_ H
       clear H
       go_wp2_with (first|((with_reducible refine gate_builtin (b:=.append) (xs:=#[.tmp 25,.tmp 31]) rfl ?_);at_builtin;refine Kd.R_append (Kd.int .u8) (w0:=w) w.heap.size rfl (.tmp 25) (.tmp 31) 27 5 (.int .u8 0) 1 rfl Tryz.underlying27 info5 rfl (by decide) (by omega) u3 x3_2 ((ji13) % 256) [.int .u8 ((ji13) % 256)] (fun _=>True) (fun _=>False) rfl rfl ?aP (fun _ hk=>hk.elim) ?aF ?aO ?aB ?aS ?aL ?_;(case aP=>exact rfl);(case aB=>exact (bw_ HB));(case aF=>exact (fun _ _=>trivial));(case aO=>exact (kr_ HO_3.out));(case aS=>exact (sz_ HB));(case aL=>have:=LMc14.out;omega);intro v14 w15 ho hb hg hat;rw [← Ny13.out] at ho;replace HB:=am_ hb;have HO15:=am_ ho;clear HO_3;clear ho hb hg hat))
       go_roundg k2
       case measure => have:=HK1.out;have:=HK2.out;omega
       case rel => exact ⟨(y13),(wrap64 (x5_2 - 8)),e1_,H',⟨by have:=HK1.out;have:=HK2.out;omega⟩,⟨kr_ HO15.out⟩,⟨bw_ HB⟩⟩
      ·have c10b0:decide (0≤x5_2)=false:=decide_eq_false c10
       clear c10
       obtain rfl:=Option.some.inj H
       go_wp2
       go_ret
       exact ⟨_,e2_,kr_ HO_3.out,bw_ HB⟩
   ·have c8b0:(((x3_1.length:Int) % 64) == 56)=false:=beq_eq_false_iff_ne.mpr c8
    have c8b1:(((x3_1.length:Int) % 64) != 56)=true:=bne_iff_ne.mpr c8
    replace H:=ip_ H;obtain ⟨c16,H⟩:=H
    have LMc16:=am_ c16
    clear c16
    obtain ⟨y10,hy10⟩:∃ y_:List Int,y_=(x3_1 ++ [0]):=⟨_,rfl⟩
    replace H:(spec_Padded.l0 k1 l0 y10)=some r:=yh_ hy10 H
    have Ny10:=am_ hy10
    clear hy10
    have H':=am_ H
    clear H
    obtain ⟨Ao17,co17,eo17⟩:=Kd.R_slice HO_3.out
    subst eo17
    go_wp2_with (first|((with_reducible refine gate_builtin (b:=.append) (xs:=#[.tmp 15,.tmp 16]) rfl ?_);at_builtin;refine Kd.R_append (Kd.int .u8) (w0:=w) w.heap.size rfl (.tmp 15) (.tmp 16) 27 5 (.int .u8 0) 1 rfl Tryz.underlying27 info5 rfl (by decide) (by omega) (.slice Ao17 x3_1.length co17) x3_1 0 [.int .u8 0] (fun _=>True) (fun _=>False) rfl rfl ?aP (fun _ hk=>hk.elim) ?aF ?aO ?aB ?aS ?aL ?_;(case aP=>exact rfl);(case aB=>exact (bw_ HB));(case aF=>exact (fun _ _=>trivial));(case aO=>exact (kr_ HO_3.out));(case aS=>exact (sz_ HB));(case aL=>have:=LMc16.out;omega);intro v11 w18 ho hb hg hat;rw [← Ny10.out] at ho;replace HB:=am_ hb;have HO12:=am_ ho;clear HO_3;clear ho hb hg hat))
    go_roundg k1
    case measure => have:=HK1.out;omega
    case rel => exact ⟨(y10),H',⟨by have:=HK1.out;omega⟩,⟨kr_ HO12.out⟩,⟨bw_ HB⟩⟩
def spec_l2K.f  : Option (List Int):=some (([1116352408,1899447441,3049323471,3921009573,961987163,1508970993,2453635748,2870763221,3624381080,310598401,607225278,1426881987,1925078388,2162078206,2614888103,3248222580,3835390401,4022224774,264347078,604807628,770255983,1249150122,1555081692,1996064986,2554220882,2821834349,2952996808,3210313671,3336571891,3584528711,113926993,338241895,666307205,773529912,1294757372,1396182291,1695183700,1986661051,2177026350,2456956037,2730485921,2820302411,3259730800,3345764771,3516065817,3600352804,4094571909,275423344,430227734,506948616,659060556,883997877,958139571,1322822218,1537002063,1747873779,1955562222,2024104815,2227730452,2361852424,2428436474,2756734187,3204031479,3329325298]:List Int))
theorem spec_l2K.calls  (r:List Int) (w:World) (h:spec_l2K.f  = some r) :
  Calls Tryz.prog 141 #[] w fun e w'=>∃ v0_:Value,e = .returned (v0_)∧Kd.R (Kd.int .i64) 3 w' w.heap.size (fun _=>True) v0_ r∧Below w.heap.size w w':=by
 have HB:=h0_ w
 have H:(some (([1116352408,1899447441,3049323471,3921009573,961987163,1508970993,2453635748,2870763221,3624381080,310598401,607225278,1426881987,1925078388,2162078206,2614888103,3248222580,3835390401,4022224774,264347078,604807628,770255983,1249150122,1555081692,1996064986,2554220882,2821834349,2952996808,3210313671,3336571891,3584528711,113926993,338241895,666307205,773529912,1294757372,1396182291,1695183700,1986661051,2177026350,2456956037,2730485921,2820302411,3259730800,3345764771,3516065817,3600352804,4094571909,275423344,430227734,506948616,659060556,883997877,958139571,1322822218,1537002063,1747873779,1955562222,2024104815,2227730452,2361852424,2428436474,2756734187,3204031479,3329325298]:List Int)))=some r:=h
 clear h
 obtain ⟨y601,hy1⟩:∃ y_:List Int,y_=(([1116352408,1899447441,3049323471,3921009573,961987163,1508970993,2453635748,2870763221,3624381080,310598401,607225278,1426881987,1925078388,2162078206,2614888103,3248222580,3835390401,4022224774,264347078,604807628,770255983,1249150122,1555081692,1996064986,2554220882,2821834349,2952996808,3210313671,3336571891,3584528711,113926993,338241895,666307205,773529912,1294757372,1396182291,1695183700,1986661051,2177026350,2456956037,2730485921,2820302411,3259730800,3345764771,3516065817,3600352804,4094571909,275423344,430227734,506948616,659060556,883997877,958139571,1322822218,1537002063,1747873779,1955562222,2024104815,2227730452,2361852424,2428436474,2756734187,3204031479,3329325298]:List Int)):=⟨_,rfl⟩
 replace H:(some y601)=some r:=yh_ hy1 H
 have Ny1:=am_ hy1
 clear hy1
 obtain rfl:=Option.some.inj H
 go_enter Tryz.func141,Tryz.ntmps141
 go_wp2_with (first|((with_reducible refine gd_ 1 ?_);refine rl_ (Kd.int .i64) 3 1 ([1116352408,1899447441,3049323471,3921009573,961987163,1508970993,2453635748,2870763221,3624381080,310598401,607225278,1426881987,1925078388,2162078206,2614888103,3248222580,3835390401,4022224774,264347078,604807628,770255983,1249150122,1555081692,1996064986,2554220882,2821834349,2952996808,3210313671,3336571891,3584528711,113926993,338241895,666307205,773529912,1294757372,1396182291,1695183700,1986661051,2177026350,2456956037,2730485921,2820302411,3259730800,3345764771,3516065817,3600352804,4094571909,275423344,430227734,506948616,659060556,883997877,958139571,1322822218,1537002063,1747873779,1955562222,2024104815,2227730452,2361852424,2428436474,2756734187,3204031479,3329325298]:List Int) [.int .i64 1116352408,.int .i64 1899447441,.int .i64 3049323471,.int .i64 3921009573,.int .i64 961987163,.int .i64 1508970993,.int .i64 2453635748,.int .i64 2870763221,.int .i64 3624381080,.int .i64 310598401,.int .i64 607225278,.int .i64 1426881987,.int .i64 1925078388,.int .i64 2162078206,.int .i64 2614888103,.int .i64 3248222580,.int .i64 3835390401,.int .i64 4022224774,.int .i64 264347078,.int .i64 604807628,.int .i64 770255983,.int .i64 1249150122,.int .i64 1555081692,.int .i64 1996064986,.int .i64 2554220882,.int .i64 2821834349,.int .i64 2952996808,.int .i64 3210313671,.int .i64 3336571891,.int .i64 3584528711,.int .i64 113926993,.int .i64 338241895,.int .i64 666307205,.int .i64 773529912,.int .i64 1294757372,.int .i64 1396182291,.int .i64 1695183700,.int .i64 1986661051,.int .i64 2177026350,.int .i64 2456956037,.int .i64 2730485921,.int .i64 2820302411,.int .i64 3259730800,.int .i64 3345764771,.int .i64 3516065817,.int .i64 3600352804,.int .i64 4094571909,.int .i64 275423344,.int .i64 430227734,.int .i64 506948616,.int .i64 659060556,.int .i64 883997877,.int .i64 958139571,.int .i64 1322822218,.int .i64 1537002063,.int .i64 1747873779,.int .i64 1955562222,.int .i64 2024104815,.int .i64 2227730452,.int .i64 2361852424,.int .i64 2428436474,.int .i64 2756734187,.int .i64 3204031479,.int .i64 3329325298] ?_;intro v2 w1 ho2 hb hg_ hnew_;clear hg_ hnew_;(first|rw [← Ny1.out] at ho2|(simp only [Int.reduceToNat] at ho2;rw [← Ny1.out] at ho2));have HO3:=rlo_ ho2 HB;replace HB:=ss_ HB hb;clear hb ho2))
 go_ret
 exact ⟨_,e2_,kr_ HO3.out,bw_ HB⟩
def spec_l2Turn.f (a0:Int) (a1:Int):Option (Int):=if 0≤(IntKind.u64.wrap (a1)) then (if 0≤(IntKind.u64.wrap (wrap64 (32 - a1))) then (some (Go.bits .and .i64 (Go.bits .or .i64 (shr .i64 a0 (IntKind.u64.wrap (a1))) (shl .i64 a0 (IntKind.u64.wrap (wrap64 (32 - a1))))) 4294967295)) else (none)) else (none)
theorem spec_l2Turn.calls (a0:Int) (a1:Int) (r:Int) (w:World) (h:spec_l2Turn.f a0 a1=some r) :
  Calls Tryz.prog 164 #[.int .i64 a0,.int .i64 a1] w fun e w'=>e = .returned (.int .i64 r)∧Drawn0 w w':=by
 have H:(if 0≤(IntKind.u64.wrap (a1)) then (if 0≤(IntKind.u64.wrap (wrap64 (32 - a1))) then (some (Go.bits .and .i64 (Go.bits .or .i64 (shr .i64 a0 (IntKind.u64.wrap (a1))) (shl .i64 a0 (IntKind.u64.wrap (wrap64 (32 - a1))))) 4294967295)) else (none)) else (none))=some r:=h
 clear h
 generalize hji3:(IntKind.u64.wrap (a1))=ji3 at H
 replace H:=ip_ H;obtain ⟨c4,H⟩:=H
 have c4b0:=eq_true c4
 have c4b1:=decide_eq_true c4
 clear c4
 generalize hji5:(shr .i64 a0 (ji3))=ji5 at H
 have hji5_:(a0 / 2 ^ min (ji3).toNat 64)=ji5:=hji5
 have hji5z:(ji3)≤64->(a0 / 2 ^ (ji3).toNat)=ji5:=shr_small hji5
 generalize hji6:(IntKind.u64.wrap (wrap64 (32 - a1)))=ji6 at H
 replace H:=ip_ H;obtain ⟨c7,H⟩:=H
 have c7b0:=eq_true c7
 have c7b1:=decide_eq_true c7
 clear c7
 generalize hji8:(shl .i64 a0 (ji6))=ji8 at H
 have hji8_:(IntKind.i64.wrap (a0 * 2 ^ min (ji6).toNat 64))=ji8:=hji8
 have hji8z:(ji6)≤64->(IntKind.i64.wrap (a0 * 2 ^ (ji6).toNat))=ji8:=shl_small hji8
 have hji8y:(wrap64 (a0 * 2 ^ min (ji6).toNat 64))=ji8:=(i64_w _).symm.trans hji8_
 have hji8x:(ji6)≤64->(wrap64 (a0 * 2 ^ (ji6).toNat))=ji8:=fun h_=>(i64_w _).symm.trans (hji8z h_)
 obtain rfl:=Option.some.inj H
 go_enter Tryz.func164,Tryz.ntmps164
 go_wp2
 go_ret
 exact ⟨by first|rfl|(simp;done)|(simp only [← hji3,← hji5,← hji6,← hji8] <;> (first|rfl|simp))|(simp [*];done),dw_⟩
mutual
def spec_l2Words.l0:Nat->List Int->List Int->Int->Option (List Int)
 | 0,_,_,_=>none
 | k+1,x0,x3,x4=>if x4 < 16 then (if 0≤(wrap64 (4 * x4)) then (if (wrap64 (4 * x4)) < (x0.length:Int) then (if 0≤(wrap64 ((wrap64 (4 * x4)) + 1)) then (if (wrap64 ((wrap64 (4 * x4)) + 1)) < (x0.length:Int) then (if 0≤(wrap64 ((wrap64 (4 * x4)) + 2)) then (if (wrap64 ((wrap64 (4 * x4)) + 2)) < (x0.length:Int) then (if 0≤(wrap64 ((wrap64 (4 * x4)) + 3)) then (if (wrap64 ((wrap64 (4 * x4)) + 3)) < (x0.length:Int) then (if x3.length < 17592186044416 then (spec_l2Words.l0 k x0 (x3 ++ [Go.bits .or .i64 (Go.bits .or .i64 (Go.bits .or .i64 (wrap64 ((wrap64 (rd x0 (wrap64 (4 * x4)))) * 16777216)) (wrap64 ((wrap64 (rd x0 (wrap64 ((wrap64 (4 * x4)) + 1)))) * 65536))) (wrap64 ((wrap64 (rd x0 (wrap64 ((wrap64 (4 * x4)) + 2)))) * 256))) (wrap64 (rd x0 (wrap64 ((wrap64 (4 * x4)) + 3))))]) (wrap64 (x4+1))) else (none)) else (none)) else (none)) else (none)) else (none)) else (none)) else (none)) else (none)) else (none)) else (spec_l2Words.l1 k x3 16)
def spec_l2Words.l1:Nat->List Int->Int->Option (List Int)
 | 0,_,_=>none
 | k+1,x3,x5=>if x5 < 64 then (if 0≤(wrap64 (x5 - 15)) then (if (wrap64 (x5 - 15)) < (x3.length:Int) then (if 0≤(wrap64 (x5 - 2)) then (if (wrap64 (x5 - 2)) < (x3.length:Int) then ((spec_l2Turn.f (rd x3 (wrap64 (x5 - 15))) 7).bind fun t13=>((spec_l2Turn.f (rd x3 (wrap64 (x5 - 15))) 18).bind fun t14=>((spec_l2Turn.f (rd x3 (wrap64 (x5 - 2))) 17).bind fun t15=>((spec_l2Turn.f (rd x3 (wrap64 (x5 - 2))) 19).bind fun t16=>(if 0≤(wrap64 (x5 - 16)) then (if (wrap64 (x5 - 16)) < (x3.length:Int) then (if 0≤(wrap64 (x5 - 7)) then (if (wrap64 (x5 - 7)) < (x3.length:Int) then (if x3.length < 17592186044416 then (spec_l2Words.l1 k (x3 ++ [Go.bits .and .i64 (wrap64 ((wrap64 ((wrap64 ((rd x3 (wrap64 (x5 - 16))) + (Go.bits .xor .i64 (Go.bits .xor .i64 t13 t14) ((rd x3 (wrap64 (x5 - 15))) / 8)))) + (rd x3 (wrap64 (x5 - 7))))) + (Go.bits .xor .i64 (Go.bits .xor .i64 t15 t16) ((rd x3 (wrap64 (x5 - 2))) / 1024)))) 4294967295]) (wrap64 (x5+1))) else (none)) else (none)) else (none)) else (none)) else (none)))))) else (none)) else (none)) else (none)) else (none)) else (some x3)
end
def spec_l2Words.f (k:Nat) (l0:List Int):Option (List Int):=spec_l2Words.l0 k l0 (([]:List Int)) 0
def spec_l2Words.T5:Bool × List (List Nat × List Nat):=(true,[([],[]),([],[]),([],[]),([2],[2]),([1,3],[1,3]),([4],[4]),([5],[5]),([6],[6]),([],[]),([],[]),([9],[9]),([10],[10]),([8,11],[8,11]),([12],[12]),([13],[13]),([14],[14]),([7,15],[7,15]),([],[]),([],[]),([18],[18]),([19],[19]),([17,20],[17,20]),([21],[21]),([22],[22]),([23],[23]),([16,24],[16,24]),([],[]),([],[]),([27],[27]),([28],[28]),([26,29],[26,29]),([30],[30]),([31],[31]),([25,32],[25,32]),([33],[33]),([0,34],[0,34]),([35,35,0,1,2,3,4,5,6,7,8,9,10,11,12,13,14,15,16,17,18,19,20,21,22,23,24,25,26,27,28,29,30,31,32,33,34,35],[0,35])])
def spec_l2Words.B5:List Nat:=[0,0,0,4,14,30,62,126,0,0,512,1536,3840,7936,16128,32512,65534,0,0,262144,786432,1966080,4063232,8257536,16646144,33554430,0,0,134217728,402653184,1006632960,2080374784,4227858432,8589934590,17179869182,34359738367,68719476735]
theorem spec_l2Words.tab5:rtab .any (opsOf Tryz.f163 5)=spec_l2Words.T5:=by kernel_rfl
theorem spec_l2Words.bits5:waitsOk spec_l2Words.T5.2 spec_l2Words.B5=true:=by kernel_rfl
def spec_l2Words.T13:Bool × List (List Nat × List Nat):=(true,[([],[]),([],[]),([],[]),([2],[2]),([1,3],[1,3]),([4],[4]),([],[]),([5,6],[5,6]),([],[]),([],[]),([9],[9]),([8,10],[8,10]),([11],[11]),([7,12],[7,12]),([],[]),([13,14],[13,14]),([15],[15]),([16],[16]),([0,17],[0,17]),([18,18,0,1,2,3,4,5,6,7,8,9,10,11,12,13,14,15,16,17,18],[0,1,8,18])])
def spec_l2Words.B13:List Nat:=[0,0,0,4,14,30,0,126,0,0,512,1792,3840,8190,0,32766,65534,131070,262143,524287]
theorem spec_l2Words.tab13:rtab .any (opsOf Tryz.f163 13)=spec_l2Words.T13:=by kernel_rfl
theorem spec_l2Words.bits13:waitsOk spec_l2Words.T13.2 spec_l2Words.B13=true:=by kernel_rfl
theorem spec_l2Words.calls (k:Nat) (A0:Option Addr) (c0:Nat) (l0:List Int) (r:List Int) (w:World) (hr0:Kd.C (Kd.int .u8) w A0 l0.length l0) (hc0:l0.length≤c0) (h:spec_l2Words.f k l0=some r) :
  Calls Tryz.prog 163 #[.slice A0 l0.length c0] w fun e w'=>∃ v0_:Value,e = .returned (v0_)∧Kd.R (Kd.int .i64) 3 w' w.heap.size (fun _=>True) v0_ r∧Below w.heap.size w w':=by
 have HR0:=am_ hr0
 have HC0:=am_ hc0
 clear hr0 hc0
 have HB:=h0_ w
 have H:(spec_l2Words.l0 k l0 (([]:List Int)) 0)=some r:=h
 clear h
 obtain ⟨y601,hy1⟩:∃ y_:List Int,y_=(([]:List Int)):=⟨_,rfl⟩
 replace H:(spec_l2Words.l0 k l0 y601 0)=some r:=yh_ hy1 H
 have Ny1:=am_ hy1
 clear hy1
 have H':=am_ H
 clear H
 go_enter Tryz.func163,Tryz.ntmps163
 go_wp2_with (first|((with_reducible refine gd_ 10 ?_);refine rl_ (Kd.int .i64) 3 10 ([]:List Int) [] ?_;intro v2 w2 ho3 hb hg_ hnew_;clear hg_ hnew_;(first|rw [← Ny1.out] at ho3|(simp only [Int.reduceToNat] at ho3;rw [← Ny1.out] at ho3));have HO3:=rlo_ ho3 HB;replace HB:=ss_ HB hb;clear hb ho3))
 go_loopg [3,4] k (fun kq v3 v4 w'=>∃ (x3_1:List Int) (x4_1:Int),v4 = .int .i64 x4_1∧Aside0 (spec_l2Words.l0 kq l0 x3_1 x4_1=some r)∧Aside0 (kq≤k)∧Aside0 (Kd.R (Kd.int .i64) 3 w' w.heap.size (fun _=>True) v3 x3_1)∧Aside0 (Below w.heap.size w w'))
 case atStart => exact ⟨(y601),(0),e1_,H',⟨Nat.le_refl _⟩,⟨kr_ HO3.out⟩,⟨bw_ HB⟩⟩
 case round =>
  clear H'
  obtain ⟨x3_1,x4_1,rfl,HA,HK1,HO_3,HB⟩:=hrel
  cases gk with
  | zero=>exact absurd HA.out (by simp [spec_l2Words.l0])
  | succ k1 =>
   have H:=HA.out
   clear HA
   simp only [spec_l2Words.l0] at H
   replace H:=itd_ H;obtain ⟨c4b0,H⟩|⟨c4b0,H⟩:=H
   ·generalize hji5:(wrap64 (4 * x4_1))=ji5 at H
    have hji5w:(IntKind.i64.wrap (4 * x4_1))=ji5:=(i64_w _).trans hji5
    replace H:=ipd_ H;obtain ⟨c6b0,H⟩:=H
    replace H:=ipd_ H;obtain ⟨c7b0,H⟩:=H
    generalize hji8:(wrap64 ((ji5) + 1))=ji8 at H
    have hji8w:(IntKind.i64.wrap ((ji5) + 1))=ji8:=(i64_w _).trans hji8
    replace H:=ipd_ H;obtain ⟨c9b0,H⟩:=H
    replace H:=ipd_ H;obtain ⟨c10b0,H⟩:=H
    generalize hji11:(wrap64 ((ji5) + 2))=ji11 at H
    have hji11w:(IntKind.i64.wrap ((ji5) + 2))=ji11:=(i64_w _).trans hji11
    replace H:=ipd_ H;obtain ⟨c12b0,H⟩:=H
    replace H:=ipd_ H;obtain ⟨c13b0,H⟩:=H
    generalize hji14:(wrap64 ((ji5) + 3))=ji14 at H
    have hji14w:(IntKind.i64.wrap ((ji5) + 3))=ji14:=(i64_w _).trans hji14
    replace H:=ipd_ H;obtain ⟨c15b0,H⟩:=H
    replace H:=ipd_ H;obtain ⟨c16b0,H⟩:=H
    replace H:=ip_ H;obtain ⟨c17,H⟩:=H
    have LMc17:=am_ c17
    clear c17
    obtain ⟨y8,hy8⟩:∃ y_:List Int,y_=(x3_1 ++ [Go.bits .or .i64 (Go.bits .or .i64 (Go.bits .or .i64 (wrap64 ((wrap64 (rd l0 (ji5))) * 16777216)) (wrap64 ((wrap64 (rd l0 (ji8))) * 65536))) (wrap64 ((wrap64 (rd l0 (ji11))) * 256))) (wrap64 (rd l0 (ji14)))]):=⟨_,rfl⟩
    replace H:(spec_l2Words.l0 k1 l0 y8 (wrap64 (x4_1+1)))=some r:=yh_ hy8 H
    have Ny8:=am_ hy8
    clear hy8
    have H':=am_ H
    clear H
    try go_wp2
    replace HO_3:=am_ (Kd.R_drew HO_3.out)
    replace HB:=hd_ HB
    have p604:0≤((ji5):Int):=od_
    have q4:(ji5) < (l0.length:Int):=od_
    obtain ⟨ad4,e4,hx4_0⟩:=Kd.at_int HR0.out (ji5) p604 q4
    have hw4_0:=hx4_0
    cases e4
    replace hx4_0:=cw_ HB hx4_0
    replace p604:=eq_true p604
    replace q4:=eq_true q4
    have p605:0≤((ji8):Int):=od_
    have q5:(ji8) < (l0.length:Int):=od_
    obtain ⟨ad5,e5,hx5_0⟩:=Kd.at_int HR0.out (ji8) p605 q5
    have hw5_0:=hx5_0
    obtain rfl:ad4=ad5:=(by injection e5)
    replace hx5_0:=cw_ HB hx5_0
    replace p605:=eq_true p605
    replace q5:=eq_true q5
    have p606:0≤((ji11):Int):=od_
    have q6:(ji11) < (l0.length:Int):=od_
    obtain ⟨ad6,e6,hx6_0⟩:=Kd.at_int HR0.out (ji11) p606 q6
    have hw6_0:=hx6_0
    obtain rfl:ad4=ad6:=(by injection e6)
    replace hx6_0:=cw_ HB hx6_0
    replace p606:=eq_true p606
    replace q6:=eq_true q6
    have p607:0≤((ji14):Int):=od_
    have q7:(ji14) < (l0.length:Int):=od_
    obtain ⟨ad7,e7,hx7_0⟩:=Kd.at_int HR0.out (ji14) p607 q7
    have hw7_0:=hx7_0
    obtain rfl:ad4=ad7:=(by injection e7)
    replace hx7_0:=cw_ HB hx7_0
    replace p607:=eq_true p607
    replace q7:=eq_true q7
    refine sw_ 37 (fun w'=>w'.cell? (ad4.add ((ji5)).toNat)=some (.int .u8 (rd l0 (ji5)))∧w'.cell? (ad4.add ((ji8)).toNat)=some (.int .u8 (rd l0 (ji8)))∧w'.cell? (ad4.add ((ji11)).toNat)=some (.int .u8 (rd l0 (ji11)))∧w'.cell? (ad4.add ((ji14)).toNat)=some (.int .u8 (rd l0 (ji14)))) [] spec_l2Words.tab5 spec_l2Words.bits5 ⟨(cw_ HB hw4_0),(cw_ HB hw5_0),(cw_ HB hw6_0),(cw_ HB hw7_0)⟩ (fun hHeld HT_ HW_=>?_)
    generalize wr.drew=w18 at HO_3 HB hx4_0 hx5_0 hx6_0 hx7_0 hHeld ⊢
    refine pt_ 0 15 1 ?_
    refine pt_ 1 16 3 ?_
    refine pt_ 2 17 7 ?_
    refine pt_ 3 18 15 ?_
    refine pt_ 4 19 31 ?_
    refine pt_ 8 23 287 ?_
    refine pt_ 9 24 799 ?_
    refine pt_ 10 25 1823 ?_
    refine pt_ 11 26 3871 ?_
    refine pt_ 12 27 7967 ?_
    refine pt_ 17 32 139039 ?_
    refine pt_ 18 33 401183 ?_
    refine pt_ 19 34 925471 ?_
    refine pt_ 20 35 1974047 ?_
    refine pt_ 21 36 4071199 ?_
    refine pt_ 26 41 71180063 ?_
    refine pt_ 27 42 205397791 ?_
    refine pt_ 28 43 473833247 ?_
    refine pt_ 29 44 1010704159 ?_
    refine pt_ 30 45 2084445983 ?_
    refine tt_ 5 20 2084446015 ?_
    refine pt_ 6 21 2084446079 ?_
    refine pt_ 7 22 2084446207 ?_
    refine tt_ 13 28 2084454399 ?_
    refine pt_ 14 29 2084470783 ?_
    refine pt_ 15 30 2084503551 ?_
    refine pt_ 16 31 2084569087 ?_
    refine tt_ 22 37 2088763391 ?_
    refine pt_ 23 38 2097151999 ?_
    refine pt_ 24 39 2113929215 ?_
    refine pt_ 25 40 2147483647 ?_
    refine tt_ 31 46 4294967295 ?_
    refine pt_ 32 47 8589934591 ?_
    refine pt_ 33 48 17179869183 ?_
    refine oz_ 34 49 37 34359738367 (fun K hK=>?_)
    refine value_ (w1:=?_) (v:=?_) (by rfl) rfl ?_ ?_
    rotate_left 2
    ·go_simp
     constructor
     ·rfl
     ·rfl
    refine hK.out _ _ ⟨(World.cell?_alloc_lt _ _ _ (World.block_lt_of_cell? _ _ ((cw_ HB hw4_0)))).trans ((cw_ HB hw4_0)),(World.cell?_alloc_lt _ _ _ (World.block_lt_of_cell? _ _ ((cw_ HB hw5_0)))).trans ((cw_ HB hw5_0)),(World.cell?_alloc_lt _ _ _ (World.block_lt_of_cell? _ _ ((cw_ HB hw6_0)))).trans ((cw_ HB hw6_0)),(World.cell?_alloc_lt _ _ _ (World.block_lt_of_cell? _ _ ((cw_ HB hw7_0)))).trans ((cw_ HB hw7_0))⟩ (fun hHeld=>?_)
    clear hK K
    refine no_ 49 ?_
    refine oz_ 35 50 37 68719476735 (fun K hK=>?_)
    refine Kd.R_append_step (Kd.int .i64) (w0:=w) w.heap.size (by rfl) (.tmp 15) (.tmp 49) 84 3 (.int .i64 0) 8 rfl Tryz.underlying84 info3 rfl (by decide) (by omega) u3 x3_1 (Go.bits .or .i64 (Go.bits .or .i64 (Go.bits .or .i64 (wrap64 ((wrap64 (rd l0 (ji5))) * 16777216)) (wrap64 ((wrap64 (rd l0 (ji8))) * 65536))) (wrap64 ((wrap64 (rd l0 (ji11))) * 256))) (wrap64 (rd l0 (ji14)))) [.int .i64 (Go.bits .or .i64 (Go.bits .or .i64 (Go.bits .or .i64 (wrap64 ((wrap64 (rd l0 (ji5))) * 16777216)) (wrap64 ((wrap64 (rd l0 (ji8))) * 65536))) (wrap64 ((wrap64 (rd l0 (ji11))) * 256))) (wrap64 (rd l0 (ji14))))] (fun _=>True) (fun _=>False) rfl rfl ?aP (fun _ hk=>hk.elim) ?aF ?aO ?aB ?aS ?aL ?_
    (case aP=>exact rfl)
    (case aB=>exact (bw_ HB))
    (case aF=>exact (fun _ _=>trivial))
    (case aO=>exact (kr_ HO_3.out))
    (case aS=>exact (sz_ HB))
    (case aL=>have:=LMc17.out;omega)
    intro v9 w19 ho hb hg hat
    rw [← Ny8.out] at ho
    replace HB:=am_ hb
    have HO10:=am_ ho
    clear HO_3
    clear ho hb hg hat
    refine hK.out _ _ ⟨(cw_ HB hw4_0),(cw_ HB hw5_0),(cw_ HB hw6_0),(cw_ HB hw7_0)⟩ (fun hHeld=>?_)
    clear hK K
    refine no_ 50 ?_
    refine pt_ 36 3 137438953471 ?_
    refine dn_ ?_
    try go_wp2
    go_roundg k1
    case measure => have:=HK1.out;omega
    case rel => exact ⟨(y8),(wrap64 (x4_1+1)),e1_,H',⟨by have:=HK1.out;omega⟩,⟨kr_ HO10.out⟩,⟨bw_ HB⟩⟩
   ·have H':=am_ H
    clear H
    go_wp2
    go_loopg [3,5] k1 (fun kq v3 v5 w'=>∃ (x3_2:List Int) (x5_2:Int),v5 = .int .i64 x5_2∧Aside0 (spec_l2Words.l1 kq x3_2 x5_2=some r)∧Aside0 (kq≤k1)∧Aside0 (Kd.R (Kd.int .i64) 3 w' w.heap.size (fun _=>True) v3 x3_2)∧Aside0 (Below w.heap.size w w'))
    case atStart => exact ⟨(x3_1),(16),e1_,H',⟨Nat.le_refl _⟩,⟨kr_ HO_3.out⟩,⟨bw_ HB⟩⟩
    case round =>
     clear H'
     try clear c1
     try clear p2
     try clear c4b0
     obtain ⟨x3_2,x5_2,rfl,HA,HK2,HO_3,HB⟩:=hrel
     cases gk with
     | zero=>exact absurd HA.out (by simp [spec_l2Words.l1])
     | succ k2 =>
      have H:=HA.out
      clear HA
      simp only [spec_l2Words.l1] at H
      replace H:=itd_ H;obtain ⟨c20b0,H⟩|⟨c20b0,H⟩:=H
      ·generalize hji21:(wrap64 (x5_2 - 15))=ji21 at H
       have hji21w:(IntKind.i64.wrap (x5_2 - 15))=ji21:=(i64_w _).trans hji21
       replace H:=ipd_ H;obtain ⟨c22b0,H⟩:=H
       replace H:=ipd_ H;obtain ⟨c23b0,H⟩:=H
       generalize hji24:(wrap64 (x5_2 - 2))=ji24 at H
       have hji24w:(IntKind.i64.wrap (x5_2 - 2))=ji24:=(i64_w _).trans hji24
       replace H:=ipd_ H;obtain ⟨c25b0,H⟩:=H
       replace H:=ipd_ H;obtain ⟨c26b0,H⟩:=H
       replace H:=bi_ H;obtain ⟨t13,A27,H⟩:=H
       replace H:=bi_ H;obtain ⟨t14,A28,H⟩:=H
       replace H:=bi_ H;obtain ⟨t15,A29,H⟩:=H
       replace H:=bi_ H;obtain ⟨t16,A30,H⟩:=H
       generalize hji31:(wrap64 (x5_2 - 16))=ji31 at H
       (try rw [hji31] at A27)
       (try rw [hji31] at A28)
       (try rw [hji31] at A29)
       (try rw [hji31] at A30)
       have hji31w:(IntKind.i64.wrap (x5_2 - 16))=ji31:=(i64_w _).trans hji31
       replace H:=ipd_ H;obtain ⟨c32b0,H⟩:=H
       replace H:=ipd_ H;obtain ⟨c33b0,H⟩:=H
       generalize hji34:(wrap64 (x5_2 - 7))=ji34 at H
       (try rw [hji34] at A27)
       (try rw [hji34] at A28)
       (try rw [hji34] at A29)
       (try rw [hji34] at A30)
       have hji34w:(IntKind.i64.wrap (x5_2 - 7))=ji34:=(i64_w _).trans hji34
       replace H:=ipd_ H;obtain ⟨c35b0,H⟩:=H
       replace H:=ipd_ H;obtain ⟨c36b0,H⟩:=H
       replace H:=ip_ H;obtain ⟨c37,H⟩:=H
       have LMc37:=am_ c37
       clear c37
       obtain ⟨y19,hy19⟩:∃ y_:List Int,y_=(x3_2 ++ [Go.bits .and .i64 (wrap64 ((wrap64 ((wrap64 ((rd x3_2 (ji31)) + (Go.bits .xor .i64 (Go.bits .xor .i64 t13 t14) ((rd x3_2 (ji21)) / 8)))) + (rd x3_2 (ji34)))) + (Go.bits .xor .i64 (Go.bits .xor .i64 t15 t16) ((rd x3_2 (ji24)) / 1024)))) 4294967295]):=⟨_,rfl⟩
       replace H:(spec_l2Words.l1 k2 y19 (wrap64 (x5_2+1)))=some r:=yh_ hy19 H
       have Ny19:=am_ hy19
       clear hy19
       have H':=am_ H
       clear H
       obtain ⟨Ao38,co38,eo38⟩:=Kd.R_slice HO_3.out
       subst eo38
       obtain ⟨ad11,e11,hx11_0,p11,q11⟩:=ai_ (Kd.R_reads' HO_3.out).2.2 (ji21)
       cases e11
       have p12:0≤((ji24):Int):=od_
       have q12:(ji24) < (x3_2.length:Int):=od_
       obtain ⟨ad12,e12,hx12_0⟩:=Kd.at_int (Kd.R_reads' HO_3.out).2.2 (ji24) p12 q12
       obtain rfl:ad11=ad12:=(by injection e12)
       replace p12:=eq_true p12
       replace q12:=eq_true q12
       try go_wp2_with (first|((with_reducible refine gk_ 164 ?_);refine gm_ hji21 66 Tryz.func164 #[.int .i64 (rd x3_2 (ji21)),.int .i64 7] ?_;(with_reducible refine (spec_l2Turn.calls (rd x3_2 (ji21)) 7 t13 _ A27.out).mono ?_);rintro e w' ⟨rfl,⟨nd,rfl⟩⟩;refine ⟨_,rfl,?_⟩)|((with_reducible refine gk_ 164 ?_);refine gm_ hji21 68 Tryz.func164 #[.int .i64 (rd x3_2 (ji21)),.int .i64 18] ?_;(with_reducible refine (spec_l2Turn.calls (rd x3_2 (ji21)) 18 t14 _ A28.out).mono ?_);rintro e w' ⟨rfl,⟨nd,rfl⟩⟩;refine ⟨_,rfl,?_⟩)|((with_reducible refine gk_ 164 ?_);refine gm_ hji24 74 Tryz.func164 #[.int .i64 (rd x3_2 (ji24)),.int .i64 17] ?_;(with_reducible refine (spec_l2Turn.calls (rd x3_2 (ji24)) 17 t15 _ A29.out).mono ?_);rintro e w' ⟨rfl,⟨nd,rfl⟩⟩;refine ⟨_,rfl,?_⟩)|((with_reducible refine gk_ 164 ?_);refine gm_ hji24 76 Tryz.func164 #[.int .i64 (rd x3_2 (ji24)),.int .i64 19] ?_;(with_reducible refine (spec_l2Turn.calls (rd x3_2 (ji24)) 19 t16 _ A30.out).mono ?_);rintro e w' ⟨rfl,⟨nd,rfl⟩⟩;refine ⟨_,rfl,?_⟩))
       (try (rw [drewN_self wr];generalize hq_:World.drewN wr _=wr;have n0_:Aside0 (Kd.R (Kd.int .i64) 3 wr w.heap.size (fun _=>True) (.slice (some ad11) x3_2.length co38) x3_2):=⟨by rw [← hq_];exact (kr_ HO_3.out)⟩;have n1_:Aside0 (Below w.heap.size w wr):=⟨by rw [← hq_];exact (bw_ HB)⟩;clear HO_3 HB hq_;have HO_3:=n0_;have HB:=n1_;clear n0_ n1_))
       replace HO_3:=am_ (Kd.R_drew HO_3.out)
       replace HB:=hd_ HB
       have p17:0≤((ji31):Int):=od_
       have q17:(ji31) < (x3_2.length:Int):=od_
       obtain ⟨ad17,e17,hx17_0⟩:=Kd.at_int (Kd.R_reads' HO_3.out).2.2 (ji31) p17 q17
       obtain rfl:ad11=ad17:=(by injection e17)
       replace p17:=eq_true p17
       replace q17:=eq_true q17
       have p18:0≤((ji34):Int):=od_
       have q18:(ji34) < (x3_2.length:Int):=od_
       obtain ⟨ad18,e18,hx18_0⟩:=Kd.at_int (Kd.R_reads' HO_3.out).2.2 (ji34) p18 q18
       obtain rfl:ad11=ad18:=(by injection e18)
       replace p18:=eq_true p18
       replace q18:=eq_true q18
       refine sw_ 20 (fun w'=>w'.cell? (ad11.add ((ji31)).toNat)=some (.int .i64 (rd x3_2 (ji31)))∧w'.cell? (ad11.add ((ji34)).toNat)=some (.int .i64 (rd x3_2 (ji34)))) [17,18] spec_l2Words.tab13 spec_l2Words.bits13 ⟨hx17_0,hx18_0⟩ (fun hHeld HT_ HW_=>?_)
       generalize wr.drew=w39 at HO_3 HB hx17_0 hx18_0 hHeld ⊢
       refine pt_ 0 81 1 ?_
       refine pt_ 1 82 3 ?_
       refine pt_ 2 83 7 ?_
       refine pt_ 3 84 15 ?_
       refine pt_ 4 85 31 ?_
       refine pt_ 6 87 95 ?_
       refine pt_ 8 89 351 ?_
       refine pt_ 9 90 863 ?_
       refine pt_ 10 91 1887 ?_
       refine pt_ 11 92 3935 ?_
       refine pt_ 14 95 20319 ?_
       refine tt_ 5 86 20351 ?_
       refine pt_ 7 88 20479 ?_
       refine tt_ 12 93 24575 ?_
       refine pt_ 13 94 32767 ?_
       refine pt_ 15 96 65535 ?_
       refine pt_ 16 97 131071 ?_
       refine last_ (i:=17) (N:=some 98) (lz_ 20 262143) rfl rfl (one_of HT_.out (by kernel_rfl)) (by decide) (fun K hK=>?_)
       refine value_ (w1:=?_) (v:=?_) (by rfl) rfl ?_ ?_
       rotate_left 2
       ·go_simp
        constructor
        ·rfl
        ·rfl
       refine hK.out _ _ ?_
       clear hK K
       refine no_ 98 ?_
       refine last_ (i:=18) (N:=some 99) (lz_ 20 524287) rfl rfl (one_of HT_.out (by kernel_rfl)) (by decide) (fun K hK=>?_)
       refine Kd.R_append_step (Kd.int .i64) (w0:=w) w.heap.size (by rfl) (.tmp 81) (.tmp 98) 84 3 (.int .i64 0) 8 rfl Tryz.underlying84 info3 rfl (by decide) (by omega) (.slice (some ad11) x3_2.length co38) x3_2 (Go.bits .and .i64 (wrap64 ((wrap64 ((wrap64 ((rd x3_2 (ji31)) + (Go.bits .xor .i64 (Go.bits .xor .i64 t13 t14) ((rd x3_2 (ji21)) / 8)))) + (rd x3_2 (ji34)))) + (Go.bits .xor .i64 (Go.bits .xor .i64 t15 t16) ((rd x3_2 (ji24)) / 1024)))) 4294967295) [.int .i64 (Go.bits .and .i64 (wrap64 ((wrap64 ((wrap64 ((rd x3_2 (ji31)) + (Go.bits .xor .i64 (Go.bits .xor .i64 t13 t14) ((rd x3_2 (ji21)) / 8)))) + (rd x3_2 (ji34)))) + (Go.bits .xor .i64 (Go.bits .xor .i64 t15 t16) ((rd x3_2 (ji24)) / 1024)))) 4294967295)] (fun _=>True) (fun _=>False) rfl rfl ?aP (fun _ hk=>hk.elim) ?aF ?aO ?aB ?aS ?aL ?_
       (case aP=>exact rfl)
       (case aB=>exact (bw_ HB))
       (case aF=>exact (fun _ _=>trivial))
       (case aO=>exact (kr_ HO_3.out))
       (case aS=>exact (sz_ HB))
       (case aL=>have:=LMc37.out;omega)
       intro v20 w40 ho hb hg hat
       rw [← Ny19.out] at ho
       replace HB:=am_ hb
       have HO21:=am_ ho
       clear HO_3
       clear ho hb hg hat
       refine hK.out _ _ ?_
       clear hK K
       refine no_ 99 ?_
       refine pt_ 19 3 1048575 ?_
       refine dn_ ?_
       try go_wp2
       go_roundg k2
       case measure => have:=HK1.out;have:=HK2.out;omega
       case rel => exact ⟨(y19),(wrap64 (x5_2+1)),e1_,H',⟨by have:=HK1.out;have:=HK2.out;omega⟩,⟨kr_ HO21.out⟩,⟨bw_ HB⟩⟩
      ·obtain rfl:=Option.some.inj H
       go_wp2
       go_ret
       exact ⟨_,e2_,kr_ HO_3.out,bw_ HB⟩
mutual
def spec_l2Block.l0:Nat->List Int->List Int->List Int->List Int->Int->Option (List Int)
 | 0,_,_,_,_,_=>none
 | k+1,x0,x2,x7,x8,x9=>if x9 < 64 then (if 4 < (x8.length:Int) then ((spec_l2Turn.f (rd x8 4) 6).bind fun t11=>((spec_l2Turn.f (rd x8 4) 11).bind fun t12=>((spec_l2Turn.f (rd x8 4) 25).bind fun t13=>(if 5 < (x8.length:Int) then (if 6 < (x8.length:Int) then (if 7 < (x8.length:Int) then (if 0≤x9 then (if x9 < (x2.length:Int) then (if x9 < (x7.length:Int) then (if 0 < (x8.length:Int) then ((spec_l2Turn.f (rd x8 0) 2).bind fun t20=>((spec_l2Turn.f (rd x8 0) 13).bind fun t21=>((spec_l2Turn.f (rd x8 0) 22).bind fun t22=>(if 1 < (x8.length:Int) then (if 2 < (x8.length:Int) then (if 3 < (x8.length:Int) then (spec_l2Block.l0 k x0 x2 x7 (([Go.bits .and .i64 (wrap64 ((wrap64 ((wrap64 ((wrap64 ((wrap64 ((rd x8 7) + (Go.bits .xor .i64 (Go.bits .xor .i64 t11 t12) t13))) + (Go.bits .xor .i64 (Go.bits .and .i64 (rd x8 4) (rd x8 5)) (Go.bits .and .i64 (Go.bits .xor .i64 4294967295 (rd x8 4)) (rd x8 6))))) + (rd x2 x9))) + (rd x7 x9))) + (wrap64 ((Go.bits .xor .i64 (Go.bits .xor .i64 t20 t21) t22) + (Go.bits .xor .i64 (Go.bits .xor .i64 (Go.bits .and .i64 (rd x8 0) (rd x8 1)) (Go.bits .and .i64 (rd x8 0) (rd x8 2))) (Go.bits .and .i64 (rd x8 1) (rd x8 2))))))) 4294967295,rd x8 0,rd x8 1,rd x8 2,Go.bits .and .i64 (wrap64 ((rd x8 3) + (wrap64 ((wrap64 ((wrap64 ((wrap64 ((rd x8 7) + (Go.bits .xor .i64 (Go.bits .xor .i64 t11 t12) t13))) + (Go.bits .xor .i64 (Go.bits .and .i64 (rd x8 4) (rd x8 5)) (Go.bits .and .i64 (Go.bits .xor .i64 4294967295 (rd x8 4)) (rd x8 6))))) + (rd x2 x9))) + (rd x7 x9))))) 4294967295,rd x8 4,rd x8 5,rd x8 6]:List Int)) (wrap64 (x9+1))) else (none)) else (none)) else (none))))) else (none)) else (none)) else (none)) else (none)) else (none)) else (none)) else (none))))) else (none)) else (spec_l2Block.l1 k x0 x8 0)
def spec_l2Block.l1:Nat->List Int->List Int->Int->Option (List Int)
 | 0,_,_,_=>none
 | k+1,x0,x8,x18=>if x18 < 8 then (if 0≤x18 then (if x18 < (x8.length:Int) then (if x18 < (x0.length:Int) then (spec_l2Block.l1 k x0 (x8.set (x18:Int).toNat (Go.bits .and .i64 (wrap64 ((rd x8 x18) + (rd x0 x18))) 4294967295)) (wrap64 (x18+1))) else (none)) else (none)) else (none)) else (some x8)
end
def spec_l2Block.f (k:Nat) (l0:List Int) (l1:List Int) (l2:List Int):Option (List Int):=(spec_l2Words.f k l1).bind fun t1=>((some (([]:List Int):List Int)).bind fun y604=>(if y604.length+l0.length < 17592186044416 then (spec_l2Block.l0 k l0 l2 t1 (y604 ++ l0) 0) else (none)))
def spec_l2Block.T8:Bool × List (List Nat × List Nat):=(true,[([],[]),([],[]),([1],[1]),([2],[2]),([0,3],[0,3]),([],[]),([5],[5]),([],[]),([7],[7]),([8],[8]),([6,9],[6,9]),([4,10],[4,10]),([11,0,1,2,3,4,5,6,7,8,9,10,11],[11])])
def spec_l2Block.B8:List Nat:=[0,0,2,6,15,0,32,0,128,384,992,2047,4095]
theorem spec_l2Block.tab8:rtab .any (opsOf Tryz.f142 8)=spec_l2Block.T8:=by kernel_rfl
theorem spec_l2Block.bits8:waitsOk spec_l2Block.T8.2 spec_l2Block.B8=true:=by kernel_rfl
def spec_l2Block.T9:Bool × List (List Nat × List Nat):=(true,[([],[]),([0],[0]),([1],[1]),([],[]),([2,3],[2,3]),([],[]),([4,5],[4,5]),([],[]),([],[]),([7,8],[7,8]),([9],[9]),([6,10],[6,10]),([],[]),([],[]),([12,13],[12,13]),([14],[14]),([11,15],[11,15]),([16,0,1,2,3,4,5,6,7,8,9,10,11,12,13,14,15,16],[16])])
def spec_l2Block.B9:List Nat:=[0,1,3,0,15,0,63,0,0,384,896,2047,0,0,12288,28672,65535,131071]
theorem spec_l2Block.tab9:rtab .any (opsOf Tryz.f142 9)=spec_l2Block.T9:=by kernel_rfl
theorem spec_l2Block.bits9:waitsOk spec_l2Block.T9.2 spec_l2Block.B9=true:=by kernel_rfl
def spec_l2Block.T12:Bool × List (List Nat × List Nat):=(true,[([],[]),([],[]),([1],[1]),([2],[2]),([0,3],[0,3]),([],[]),([],[]),([6],[6]),([7],[7]),([5,8],[5,8]),([4,9],[4,9]),([],[]),([11],[11]),([12],[12]),([],[]),([14],[14]),([15],[15]),([13,16],[13,16]),([10,17],[10,17]),([18,0,1,2,3,4,5,6,7,8,9,10,11,12,13,14,15,16,17,18],[18])])
def spec_l2Block.B12:List Nat:=[0,0,2,6,15,0,0,64,192,480,1023,0,2048,6144,0,16384,49152,129024,262143,524287]
theorem spec_l2Block.tab12:rtab .any (opsOf Tryz.f142 12)=spec_l2Block.T12:=by kernel_rfl
theorem spec_l2Block.bits12:waitsOk spec_l2Block.T12.2 spec_l2Block.B12=true:=by kernel_rfl
def spec_l2Block.T14:Bool × List (List Nat × List Nat):=(true,[([],[]),([],[]),([0,1],[0,1]),([2],[2]),([],[]),([],[]),([5],[5]),([6],[6]),([],[]),([8],[8]),([9],[9]),([],[]),([11],[11]),([12],[12]),([],[]),([13,14],[13,14]),([15],[15]),([],[]),([],[]),([18],[18]),([19],[19]),([],[]),([21],[21]),([22],[22]),([3,4,7,10,16,17,20,23],[3,4,7,10,16,17,20,23]),([24,0,1,2,3,4,5,6,7,8,9,10,11,12,13,14,15,16,17,18,19,20,21,22,23,24],[5,8,11,18,21,24])])
def spec_l2Block.B14:List Nat:=[0,0,3,7,0,0,32,96,0,256,768,0,2048,6144,0,30720,63488,0,0,262144,786432,0,2097152,6291456,16777215,33554431]
theorem spec_l2Block.tab14:rtab .any (opsOf Tryz.f142 14)=spec_l2Block.T14:=by kernel_rfl
theorem spec_l2Block.bits14:waitsOk spec_l2Block.T14.2 spec_l2Block.B14=true:=by kernel_rfl
def spec_l2Block.T18:Bool × List (List Nat × List Nat):=(true,[([],[]),([],[]),([],[]),([],[]),([2,3],[2,3]),([4],[4]),([],[]),([],[]),([6,7],[6,7]),([8],[8]),([5,9],[5,9]),([10],[10]),([0,1,0,1,2,3,4,5,6,7,8,9,10,11],[0,1]),([12,11,0,1,2,3,4,5,6,7,8,9,10,11],[11,12])])
def spec_l2Block.B18:List Nat:=[0,0,0,0,12,28,0,0,192,448,1020,2044,4095,8191]
theorem spec_l2Block.tab18:rtab .any (opsOf Tryz.f142 18)=spec_l2Block.T18:=by kernel_rfl
theorem spec_l2Block.bits18:waitsOk spec_l2Block.T18.2 spec_l2Block.B18=true:=by kernel_rfl
theorem spec_l2Block.calls (k:Nat) (A0:Option Addr) (c0:Nat) (l0:List Int) (A1:Option Addr) (c1:Nat) (l1:List Int) (A2:Option Addr) (c2:Nat) (l2:List Int) (r:List Int) (w:World) (hr0:Kd.C (Kd.int .i64) w A0 l0.length l0) (hc0:l0.length≤c0) (hr1:Kd.C (Kd.int .u8) w A1 l1.length l1) (hc1:l1.length≤c1) (hr2:Kd.C (Kd.int .i64) w A2 l2.length l2) (hc2:l2.length≤c2) (h:spec_l2Block.f k l0 l1 l2=some r) :
  Calls Tryz.prog 142 #[.slice A0 l0.length c0,.slice A1 l1.length c1,.slice A2 l2.length c2] w fun e w'=>∃ v0_:Value,e = .returned (v0_)∧Kd.R (Kd.int .i64) 3 w' w.heap.size (fun _=>True) v0_ r∧Below w.heap.size w w':=by
 have HR0:=am_ hr0
 have HC0:=am_ hc0
 clear hr0 hc0
 have HR1:=am_ hr1
 have HC1:=am_ hc1
 clear hr1 hc1
 have HR2:=am_ hr2
 have HC2:=am_ hc2
 clear hr2 hc2
 have HB:=h0_ w
 have H:((spec_l2Words.f k l1).bind fun t1=>((some (([]:List Int):List Int)).bind fun y604=>(if y604.length+l0.length < 17592186044416 then (spec_l2Block.l0 k l0 l2 t1 (y604 ++ l0) 0) else (none))))=some r:=h
 clear h
 replace H:=bi_ H;obtain ⟨t1,A4,H⟩:=H
 obtain ⟨y604,Ny4,H⟩:=sb_ (([]:List Int)) H
 replace H:=ip_ H;obtain ⟨c5,H⟩:=H
 have LMc5:=am_ c5
 clear c5
 obtain ⟨y607,hy7⟩:∃ y_:List Int,y_=(y604 ++ l0):=⟨_,rfl⟩
 replace H:(spec_l2Block.l0 k l0 l2 t1 y607 0)=some r:=yh_ hy7 H
 have Ny7:=am_ hy7
 clear hy7
 have H':=am_ H
 clear H
 go_enter Tryz.func142,Tryz.ntmps142
 go_wp2_with (first|((with_reducible refine gq_ 163 20 ?_);refine gc_ 20 Tryz.func163 (spec_l2Words.calls k _ _ l1 t1 _ (cr_ HR1.out) HC1.out A4.out) ?_;rintro e w6 ⟨v2,rfl,ho0,hb⟩;refine ⟨_,rfl,?_⟩;have HO3:=rlo_ ho0 HB;replace HB:=ss_ HB hb;clear hb ho0)|((with_reducible refine gd_ 21 ?_);refine rl_ (Kd.int .i64) 3 21 ([]:List Int) [] ?_;intro v5 w7 ho8 hb hg_ hnew_;clear hg_ hnew_;(first|rw [← Ny4.out] at ho8|(simp only [Int.reduceToNat] at ho8;rw [← Ny4.out] at ho8));have HO6:=am_ (Kd.R_lower (Kd.R_new' ho8 (lt_ HO3)) (sz_ HB));replace HO3:=re_ HO3 ho8 hb;replace HB:=ss_ HB hb;clear hb ho8)|((with_reducible refine gate_builtin (b:=.append) (xs:=#[.tmp 21,.tmp 22]) rfl ?_);at_builtin;refine Kd.R_append_rows (Kd.int .i64) (w0:=w) w.heap.size rfl (.tmp 21) (.tmp 22) 84 3 (.int .i64 0) 8 rfl Tryz.underlying84 info3 rfl (by decide) (by omega) v5 y604 l0 _ _ _ (fun k_=>some k_ ≠ (v2:Value).ownBlock) (fun _=>False) rfl rfl ?aO ?aR (fun _ _ h=>h) (fun _ h=>h.elim) ?aF ?aB ?aS ?aL ?_;(case aR=>exact cb_ HR0 HB);(case aB=>exact (bw_ HB));(case aF=>exact (fun k_ hk=>Kd.fresh' (lt_ HO3) k_ hk));(case aO=>exact (kr_ (Kd.R_mono HO6.out (fun _ hk=>hk.2))));(case aS=>exact (sz_ HB));(case aL=>have:=LMc5.out;omega);intro v608 w9 ho hb hg hat;rw [← Ny7.out] at ho;replace HO3:=am_ (Kd.R_after (ok:=(fun _=>True)) (kr_ HO3.out) hg hat);replace HB:=am_ hb;have HO9:=am_ ho;clear HO6;clear ho hb hg hat))
 go_loopg [8,9] k (fun kq v8 v9 w'=>∃ (x8_1:List Int) (x9_1:Int),v9 = .int .i64 x9_1∧Aside0 (spec_l2Block.l0 kq l0 l2 t1 x8_1 x9_1=some r)∧Aside0 (kq≤k)∧Aside0 (Kd.R (Kd.int .i64) 3 w' w.heap.size (fun k_=>some k_ ≠ (v8:Value).ownBlock) v2 t1)∧Aside0 (Kd.R (Kd.int .i64) 3 w' w.heap.size (fun k_=>some k_ ≠ (v2:Value).ownBlock) v8 x8_1)∧Aside0 (Below w.heap.size w w'))
 case atStart => exact ⟨(y607),(0),e1_,H',⟨Nat.le_refl _⟩,⟨kr_ (Kd.R_mono HO3.out (fun _ hk=>hk.2))⟩,⟨kr_ HO9.out⟩,⟨bw_ HB⟩⟩
 case round =>
  clear H'
  try clear c5
  obtain ⟨x8_1,x9_1,rfl,HA,HK1,HO_7,HO_8,HB⟩:=hrel
  cases gk with
  | zero=>exact absurd HA.out (by simp [spec_l2Block.l0])
  | succ k1 =>
   have H:=HA.out
   clear HA
   simp only [spec_l2Block.l0] at H
   replace H:=itd_ H;obtain ⟨c10b0,H⟩|⟨c10b0,H⟩:=H
   ·replace H:=ip_ H;obtain ⟨c11,H⟩:=H
    have c11b0:=decide_eq_true c11
    have c11b1:decide (4 < x8_1.length)=true:=decide_eq_true (by omega)
    clear c11
    replace H:=bi_ H;obtain ⟨t11,A12,H⟩:=H
    replace H:=bi_ H;obtain ⟨t12,A13,H⟩:=H
    replace H:=bi_ H;obtain ⟨t13,A14,H⟩:=H
    replace H:=ip_ H;obtain ⟨c15,H⟩:=H
    have c15b0:=decide_eq_true c15
    have c15b1:decide (5 < x8_1.length)=true:=decide_eq_true (by omega)
    clear c15
    replace H:=ip_ H;obtain ⟨c16,H⟩:=H
    have c16b0:=decide_eq_true c16
    have c16b1:decide (6 < x8_1.length)=true:=decide_eq_true (by omega)
    clear c16
    replace H:=ip_ H;obtain ⟨c17,H⟩:=H
    have c17b0:=decide_eq_true c17
    have c17b1:decide (7 < x8_1.length)=true:=decide_eq_true (by omega)
    clear c17
    replace H:=ipd_ H;obtain ⟨c18b0,H⟩:=H
    replace H:=ipd_ H;obtain ⟨c19b0,H⟩:=H
    replace H:=ipd_ H;obtain ⟨c20b0,H⟩:=H
    replace H:=ip_ H;obtain ⟨c21,H⟩:=H
    have c21b0:=decide_eq_true c21
    have c21b1:decide (0 < x8_1.length)=true:=decide_eq_true (by omega)
    clear c21
    replace H:=bi_ H;obtain ⟨t20,A22,H⟩:=H
    replace H:=bi_ H;obtain ⟨t21,A23,H⟩:=H
    replace H:=bi_ H;obtain ⟨t22,A24,H⟩:=H
    replace H:=ip_ H;obtain ⟨c25,H⟩:=H
    have c25b0:=decide_eq_true c25
    have c25b1:decide (1 < x8_1.length)=true:=decide_eq_true (by omega)
    clear c25
    replace H:=ip_ H;obtain ⟨c26,H⟩:=H
    have c26b0:=decide_eq_true c26
    have c26b1:decide (2 < x8_1.length)=true:=decide_eq_true (by omega)
    clear c26
    replace H:=ip_ H;obtain ⟨c27,H⟩:=H
    have c27b0:=decide_eq_true c27
    have c27b1:decide (3 < x8_1.length)=true:=decide_eq_true (by omega)
    clear c27
    obtain ⟨y32,hy32⟩:∃ y_:List Int,y_=(([Go.bits .and .i64 (wrap64 ((wrap64 ((wrap64 ((wrap64 ((wrap64 ((rd x8_1 7) + (Go.bits .xor .i64 (Go.bits .xor .i64 t11 t12) t13))) + (Go.bits .xor .i64 (Go.bits .and .i64 (rd x8_1 4) (rd x8_1 5)) (Go.bits .and .i64 (Go.bits .xor .i64 4294967295 (rd x8_1 4)) (rd x8_1 6))))) + (rd l2 x9_1))) + (rd t1 x9_1))) + (wrap64 ((Go.bits .xor .i64 (Go.bits .xor .i64 t20 t21) t22) + (Go.bits .xor .i64 (Go.bits .xor .i64 (Go.bits .and .i64 (rd x8_1 0) (rd x8_1 1)) (Go.bits .and .i64 (rd x8_1 0) (rd x8_1 2))) (Go.bits .and .i64 (rd x8_1 1) (rd x8_1 2))))))) 4294967295,rd x8_1 0,rd x8_1 1,rd x8_1 2,Go.bits .and .i64 (wrap64 ((rd x8_1 3) + (wrap64 ((wrap64 ((wrap64 ((wrap64 ((rd x8_1 7) + (Go.bits .xor .i64 (Go.bits .xor .i64 t11 t12) t13))) + (Go.bits .xor .i64 (Go.bits .and .i64 (rd x8_1 4) (rd x8_1 5)) (Go.bits .and .i64 (Go.bits .xor .i64 4294967295 (rd x8_1 4)) (rd x8_1 6))))) + (rd l2 x9_1))) + (rd t1 x9_1))))) 4294967295,rd x8_1 4,rd x8_1 5,rd x8_1 6]:List Int)):=⟨_,rfl⟩
    replace H:(spec_l2Block.l0 k1 l0 l2 t1 y32 (wrap64 (x9_1+1)))=some r:=yh_ hy32 H
    have Ny32:=am_ hy32
    clear hy32
    have H':=am_ H
    clear H
    obtain ⟨Ao28,co28,eo28⟩:=Kd.R_slice HO_8.out
    subst eo28
    have p10:0≤(4:Int):=(by omega)
    have q10:4 < (x8_1.length:Int):=od_
    obtain ⟨ad10,e10,hx10_0⟩:=Kd.at_int (Kd.R_reads' HO_8.out).2.2 4 p10 q10
    cases e10
    (try simp only [show (4:Int).toNat=4 from rfl,Nat.reduceMul,Nat.reduceEqDiff,Go.Addr.add,↓reduceIte] at hx10_0)
    have qi10:(4 < x8_1.length)=True:=eq_true (by omega)
    (try rw [show ((4:Int)).toNat=4 from rfl] at hx10_0)
    replace p10:=eq_true p10
    replace q10:=eq_true q10
    try go_wp2_with (first|((with_reducible refine gq_ 164 32 ?_);refine gc_ 32 Tryz.func164 (spec_l2Turn.calls (rd x8_1 4) 6 t11 _ A12.out) ?_;rintro e w' ⟨rfl,⟨nd,rfl⟩⟩;refine ⟨_,rfl,?_⟩)|((with_reducible refine gq_ 164 34 ?_);refine gc_ 34 Tryz.func164 (spec_l2Turn.calls (rd x8_1 4) 11 t12 _ A13.out) ?_;rintro e w' ⟨rfl,⟨nd,rfl⟩⟩;refine ⟨_,rfl,?_⟩)|((with_reducible refine gq_ 164 37 ?_);refine gc_ 37 Tryz.func164 (spec_l2Turn.calls (rd x8_1 4) 25 t13 _ A14.out) ?_;rintro e w' ⟨rfl,⟨nd,rfl⟩⟩;refine ⟨_,rfl,?_⟩))
    (try (rw [drewN_self wr];generalize hq_:World.drewN wr _=wr;have n0_:Aside0 (Kd.R (Kd.int .i64) 3 wr w.heap.size (fun k_=>some k_ ≠ (.slice (some ad10) x8_1.length co28:Value).ownBlock) v2 t1):=⟨by rw [← hq_];exact (kr_ HO_7.out)⟩;have n1_:Aside0 (Kd.R (Kd.int .i64) 3 wr w.heap.size (fun k_=>some k_ ≠ (v2:Value).ownBlock) (.slice (some ad10) x8_1.length co28) x8_1):=⟨by rw [← hq_];exact (kr_ HO_8.out)⟩;have n2_:Aside0 (Below w.heap.size w wr):=⟨by rw [← hq_];exact (bw_ HB)⟩;clear HO_7 HO_8 HB hq_;have HO_7:=n0_;have HO_8:=n1_;have HB:=n2_;clear n0_ n1_ n2_))
    replace HO_7:=am_ (Kd.R_drew HO_7.out)
    replace HO_8:=am_ (Kd.R_drew HO_8.out)
    replace HB:=hd_ HB
    have p14:0≤(5:Int):=(by omega)
    have q14:5 < (x8_1.length:Int):=od_
    obtain ⟨ad14,e14,hx14_0⟩:=Kd.at_int (Kd.R_reads' HO_8.out).2.2 5 p14 q14
    obtain rfl:ad10=ad14:=(by injection e14)
    (try simp only [show (5:Int).toNat=5 from rfl,Nat.reduceMul,Nat.reduceEqDiff,Go.Addr.add,↓reduceIte] at hx14_0)
    have qi14:(5 < x8_1.length)=True:=eq_true (by omega)
    (try rw [show ((5:Int)).toNat=5 from rfl] at hx14_0)
    replace p14:=eq_true p14
    replace q14:=eq_true q14
    have p15:0≤(6:Int):=(by omega)
    have q15:6 < (x8_1.length:Int):=od_
    obtain ⟨ad15,e15,hx15_0⟩:=Kd.at_int (Kd.R_reads' HO_8.out).2.2 6 p15 q15
    obtain rfl:ad10=ad15:=(by injection e15)
    (try simp only [show (6:Int).toNat=6 from rfl,Nat.reduceMul,Nat.reduceEqDiff,Go.Addr.add,↓reduceIte] at hx15_0)
    have qi15:(6 < x8_1.length)=True:=eq_true (by omega)
    (try rw [show ((6:Int)).toNat=6 from rfl] at hx15_0)
    replace p15:=eq_true p15
    replace q15:=eq_true q15
    refine sw_ 13 (fun w'=>w'.cell? ⟨ad10.block,ad10.off+5,none⟩=some (.int .i64 (rd x8_1 5))∧w'.cell? ⟨ad10.block,ad10.off+6,none⟩=some (.int .i64 (rd x8_1 6))) [] spec_l2Block.tab8 spec_l2Block.bits8 ⟨hx14_0,hx15_0⟩ (fun hHeld HT_ HW_=>?_)
    generalize wr.drew=w29 at HO_7 HO_8 HB hx14_0 hx15_0 hHeld ⊢
    refine pt_ 0 39 1 ?_
    refine pt_ 1 40 3 ?_
    refine pt_ 2 41 7 ?_
    refine pt_ 5 44 39 ?_
    refine pt_ 6 45 103 ?_
    refine pt_ 7 46 231 ?_
    refine pt_ 8 47 487 ?_
    refine tt_ 3 42 495 ?_
    refine pt_ 4 43 511 ?_
    refine tt_ 9 48 1023 ?_
    refine pt_ 10 49 2047 ?_
    refine pt_ 11 50 4095 ?_
    refine pt_ 12 12 8191 ?_
    refine dn_ ?_
    try go_wp2
    replace HO_7:=am_ (Kd.R_drew HO_7.out)
    replace HO_8:=am_ (Kd.R_drew HO_8.out)
    replace HB:=hd_ HB
    have p16:0≤(7:Int):=(by omega)
    have q16:7 < (x8_1.length:Int):=od_
    obtain ⟨ad16,e16,hx16_0⟩:=Kd.at_int (Kd.R_reads' HO_8.out).2.2 7 p16 q16
    obtain rfl:ad10=ad16:=(by injection e16)
    (try simp only [show (7:Int).toNat=7 from rfl,Nat.reduceMul,Nat.reduceEqDiff,Go.Addr.add,↓reduceIte] at hx16_0)
    have qi16:(7 < x8_1.length)=True:=eq_true (by omega)
    (try rw [show ((7:Int)).toNat=7 from rfl] at hx16_0)
    replace p16:=eq_true p16
    replace q16:=eq_true q16
    have p17:0≤(x9_1:Int):=od_
    have q17:x9_1 < (l2.length:Int):=od_
    obtain ⟨ad17,e17,hx17_0⟩:=Kd.at_int HR2.out x9_1 p17 q17
    have hw17_0:=hx17_0
    cases e17
    replace hx17_0:=cw_ HB hx17_0
    replace p17:=eq_true p17
    replace q17:=eq_true q17
    obtain ⟨Ao31,co31,eo31⟩:=Kd.R_slice HO_7.out
    subst eo31
    obtain ⟨ad18,e18,hx18_0,p18,q18⟩:=ai_ (Kd.R_reads' HO_7.out).2.2 x9_1
    cases e18
    refine sw_ 18 (fun w'=>w'.cell? ⟨ad10.block,ad10.off+7,none⟩=some (.int .i64 (rd x8_1 7))∧w'.cell? (ad17.add (x9_1).toNat)=some (.int .i64 (rd l2 x9_1))∧w'.cell? (ad18.add (x9_1).toNat)=some (.int .i64 (rd t1 x9_1))) [] spec_l2Block.tab9 spec_l2Block.bits9 ⟨hx16_0,(cw_ HB hw17_0),hx18_0⟩ (fun hHeld HT_ HW_=>?_)
    generalize w29.drew=w30 at HO_7 HO_8 HB hx16_0 hx17_0 hx18_0 hHeld ⊢
    refine pt_ 0 51 1 ?_
    refine pt_ 1 52 3 ?_
    refine pt_ 3 54 11 ?_
    refine pt_ 5 56 43 ?_
    refine pt_ 7 58 171 ?_
    refine pt_ 8 59 427 ?_
    refine pt_ 9 60 939 ?_
    refine pt_ 12 63 5035 ?_
    refine pt_ 13 64 13227 ?_
    refine pt_ 14 65 29611 ?_
    refine tt_ 2 53 29615 ?_
    refine pt_ 4 55 29631 ?_
    refine pt_ 6 57 29695 ?_
    refine tt_ 10 61 30719 ?_
    refine pt_ 11 62 32767 ?_
    refine tt_ 15 66 65535 ?_
    refine pt_ 16 67 131071 ?_
    refine pt_ 17 13 262143 ?_
    refine dn_ ?_
    have p19:0≤(0:Int):=(by omega)
    have q19:0 < (x8_1.length:Int):=od_
    obtain ⟨ad19,e19,hx19_0⟩:=Kd.at_int (Kd.R_reads' HO_8.out).2.2 0 p19 q19
    obtain rfl:ad10=ad19:=(by injection e19)
    have qi19:(0 < x8_1.length)=True:=eq_true (by omega)
    (try rw [show ((0:Int)).toNat=0 from rfl] at hx19_0)
    (try rw [Addr.add_zero'] at hx19_0)
    replace p19:=eq_true p19
    replace q19:=eq_true q19
    try go_wp2_with (first|((with_reducible refine gq_ 164 72 ?_);refine gc_ 72 Tryz.func164 (spec_l2Turn.calls (rd x8_1 0) 2 t20 _ A22.out) ?_;rintro e w' ⟨rfl,⟨nd,rfl⟩⟩;refine ⟨_,rfl,?_⟩)|((with_reducible refine gq_ 164 74 ?_);refine gc_ 74 Tryz.func164 (spec_l2Turn.calls (rd x8_1 0) 13 t21 _ A23.out) ?_;rintro e w' ⟨rfl,⟨nd,rfl⟩⟩;refine ⟨_,rfl,?_⟩)|((with_reducible refine gq_ 164 77 ?_);refine gc_ 77 Tryz.func164 (spec_l2Turn.calls (rd x8_1 0) 22 t22 _ A24.out) ?_;rintro e w' ⟨rfl,⟨nd,rfl⟩⟩;refine ⟨_,rfl,?_⟩))
    (try (rw [drewN_self w30];generalize hq_:World.drewN w30 _=w30;have n0_:Aside0 (Kd.R (Kd.int .i64) 3 w30 w.heap.size (fun k_=>some k_ ≠ (.slice (some ad10) x8_1.length co28:Value).ownBlock) (.slice (some ad18) t1.length co31) t1):=⟨by rw [← hq_];exact (kr_ HO_7.out)⟩;have n1_:Aside0 (Kd.R (Kd.int .i64) 3 w30 w.heap.size (fun k_=>some k_ ≠ (.slice (some ad18) t1.length co31:Value).ownBlock) (.slice (some ad10) x8_1.length co28) x8_1):=⟨by rw [← hq_];exact (kr_ HO_8.out)⟩;have n2_:Aside0 (Below w.heap.size w w30):=⟨by rw [← hq_];exact (bw_ HB)⟩;clear HO_7 HO_8 HB hq_;have HO_7:=n0_;have HO_8:=n1_;have HB:=n2_;clear n0_ n1_ n2_))
    replace HO_7:=am_ (Kd.R_drew HO_7.out)
    replace HO_8:=am_ (Kd.R_drew HO_8.out)
    replace HB:=hd_ HB
    have p23:0≤(1:Int):=(by omega)
    have q23:1 < (x8_1.length:Int):=od_
    obtain ⟨ad23,e23,hx23_0⟩:=Kd.at_int (Kd.R_reads' HO_8.out).2.2 1 p23 q23
    obtain rfl:ad10=ad23:=(by injection e23)
    (try simp only [show (1:Int).toNat=1 from rfl,Nat.reduceMul,Nat.reduceEqDiff,Go.Addr.add,↓reduceIte] at hx23_0)
    have qi23:(1 < x8_1.length)=True:=eq_true (by omega)
    (try rw [show ((1:Int)).toNat=1 from rfl] at hx23_0)
    replace p23:=eq_true p23
    replace q23:=eq_true q23
    have p24:0≤(2:Int):=(by omega)
    have q24:2 < (x8_1.length:Int):=od_
    obtain ⟨ad24,e24,hx24_0⟩:=Kd.at_int (Kd.R_reads' HO_8.out).2.2 2 p24 q24
    obtain rfl:ad10=ad24:=(by injection e24)
    (try simp only [show (2:Int).toNat=2 from rfl,Nat.reduceMul,Nat.reduceEqDiff,Go.Addr.add,↓reduceIte] at hx24_0)
    have qi24:(2 < x8_1.length)=True:=eq_true (by omega)
    (try rw [show ((2:Int)).toNat=2 from rfl] at hx24_0)
    replace p24:=eq_true p24
    replace q24:=eq_true q24
    have p25:0≤(1:Int):=(by omega)
    have q25:1 < (x8_1.length:Int):=od_
    obtain ⟨ad25,e25,hx25_0⟩:=Kd.at_int (Kd.R_reads' HO_8.out).2.2 1 p25 q25
    obtain rfl:ad10=ad25:=(by injection e25)
    (try simp only [show (1:Int).toNat=1 from rfl,Nat.reduceMul,Nat.reduceEqDiff,Go.Addr.add,↓reduceIte] at hx25_0)
    have qi25:(1 < x8_1.length)=True:=eq_true (by omega)
    (try rw [show ((1:Int)).toNat=1 from rfl] at hx25_0)
    replace p25:=eq_true p25
    replace q25:=eq_true q25
    have p26:0≤(2:Int):=(by omega)
    have q26:2 < (x8_1.length:Int):=od_
    obtain ⟨ad26,e26,hx26_0⟩:=Kd.at_int (Kd.R_reads' HO_8.out).2.2 2 p26 q26
    obtain rfl:ad10=ad26:=(by injection e26)
    (try simp only [show (2:Int).toNat=2 from rfl,Nat.reduceMul,Nat.reduceEqDiff,Go.Addr.add,↓reduceIte] at hx26_0)
    have qi26:(2 < x8_1.length)=True:=eq_true (by omega)
    (try rw [show ((2:Int)).toNat=2 from rfl] at hx26_0)
    replace p26:=eq_true p26
    replace q26:=eq_true q26
    refine sw_ 20 (fun w'=>w'.cell? ⟨ad10.block,ad10.off+1,none⟩=some (.int .i64 (rd x8_1 1))∧w'.cell? ⟨ad10.block,ad10.off+2,none⟩=some (.int .i64 (rd x8_1 2))∧w'.cell? ⟨ad10.block,ad10.off+1,none⟩=some (.int .i64 (rd x8_1 1))∧w'.cell? ⟨ad10.block,ad10.off+2,none⟩=some (.int .i64 (rd x8_1 2))) [] spec_l2Block.tab12 spec_l2Block.bits12 ⟨hx23_0,hx24_0,hx25_0,hx26_0⟩ (fun hHeld HT_ HW_=>?_)
    generalize w30.drew=w32 at HO_7 HO_8 HB hx23_0 hx24_0 hx25_0 hx26_0 hHeld ⊢
    refine pt_ 0 79 1 ?_
    refine pt_ 1 80 3 ?_
    refine pt_ 2 81 7 ?_
    refine pt_ 5 84 39 ?_
    refine pt_ 6 85 103 ?_
    refine pt_ 7 86 231 ?_
    refine pt_ 11 90 2279 ?_
    refine pt_ 12 91 6375 ?_
    refine pt_ 14 93 22759 ?_
    refine pt_ 15 94 55527 ?_
    refine tt_ 3 82 55535 ?_
    refine pt_ 4 83 55551 ?_
    refine tt_ 8 87 55807 ?_
    refine pt_ 9 88 56319 ?_
    refine pt_ 10 89 57343 ?_
    refine tt_ 13 92 65535 ?_
    refine tt_ 16 95 131071 ?_
    refine pt_ 17 96 262143 ?_
    refine pt_ 18 97 524287 ?_
    refine pt_ 19 16 1048575 ?_
    refine dn_ ?_
    try go_wp2
    replace HO_7:=am_ (Kd.R_drew HO_7.out)
    replace HO_8:=am_ (Kd.R_drew HO_8.out)
    replace HB:=hd_ HB
    have p27:0≤(1:Int):=(by omega)
    have q27:1 < (x8_1.length:Int):=od_
    obtain ⟨ad27,e27,hx27_0⟩:=Kd.at_int (Kd.R_reads' HO_8.out).2.2 1 p27 q27
    obtain rfl:ad10=ad27:=(by injection e27)
    (try simp only [show (1:Int).toNat=1 from rfl,Nat.reduceMul,Nat.reduceEqDiff,Go.Addr.add,↓reduceIte] at hx27_0)
    have qi27:(1 < x8_1.length)=True:=eq_true (by omega)
    (try rw [show ((1:Int)).toNat=1 from rfl] at hx27_0)
    replace p27:=eq_true p27
    replace q27:=eq_true q27
    have p28:0≤(2:Int):=(by omega)
    have q28:2 < (x8_1.length:Int):=od_
    obtain ⟨ad28,e28,hx28_0⟩:=Kd.at_int (Kd.R_reads' HO_8.out).2.2 2 p28 q28
    obtain rfl:ad10=ad28:=(by injection e28)
    (try simp only [show (2:Int).toNat=2 from rfl,Nat.reduceMul,Nat.reduceEqDiff,Go.Addr.add,↓reduceIte] at hx28_0)
    have qi28:(2 < x8_1.length)=True:=eq_true (by omega)
    (try rw [show ((2:Int)).toNat=2 from rfl] at hx28_0)
    replace p28:=eq_true p28
    replace q28:=eq_true q28
    have p29:0≤(3:Int):=(by omega)
    have q29:3 < (x8_1.length:Int):=od_
    obtain ⟨ad29,e29,hx29_0⟩:=Kd.at_int (Kd.R_reads' HO_8.out).2.2 3 p29 q29
    obtain rfl:ad10=ad29:=(by injection e29)
    (try simp only [show (3:Int).toNat=3 from rfl,Nat.reduceMul,Nat.reduceEqDiff,Go.Addr.add,↓reduceIte] at hx29_0)
    have qi29:(3 < x8_1.length)=True:=eq_true (by omega)
    (try rw [show ((3:Int)).toNat=3 from rfl] at hx29_0)
    replace p29:=eq_true p29
    replace q29:=eq_true q29
    have p30:0≤(5:Int):=(by omega)
    have q30:5 < (x8_1.length:Int):=od_
    obtain ⟨ad30,e30,hx30_0⟩:=Kd.at_int (Kd.R_reads' HO_8.out).2.2 5 p30 q30
    obtain rfl:ad10=ad30:=(by injection e30)
    (try simp only [show (5:Int).toNat=5 from rfl,Nat.reduceMul,Nat.reduceEqDiff,Go.Addr.add,↓reduceIte] at hx30_0)
    have qi30:(5 < x8_1.length)=True:=eq_true (by omega)
    (try rw [show ((5:Int)).toNat=5 from rfl] at hx30_0)
    replace p30:=eq_true p30
    replace q30:=eq_true q30
    have p31:0≤(6:Int):=(by omega)
    have q31:6 < (x8_1.length:Int):=od_
    obtain ⟨ad31,e31,hx31_0⟩:=Kd.at_int (Kd.R_reads' HO_8.out).2.2 6 p31 q31
    obtain rfl:ad10=ad31:=(by injection e31)
    (try simp only [show (6:Int).toNat=6 from rfl,Nat.reduceMul,Nat.reduceEqDiff,Go.Addr.add,↓reduceIte] at hx31_0)
    have qi31:(6 < x8_1.length)=True:=eq_true (by omega)
    (try rw [show ((6:Int)).toNat=6 from rfl] at hx31_0)
    replace p31:=eq_true p31
    replace q31:=eq_true q31
    refine sw_ 26 (fun w'=>w'.cell? ⟨ad10.block,ad10.off+1,none⟩=some (.int .i64 (rd x8_1 1))∧w'.cell? ⟨ad10.block,ad10.off+2,none⟩=some (.int .i64 (rd x8_1 2))∧w'.cell? ⟨ad10.block,ad10.off+3,none⟩=some (.int .i64 (rd x8_1 3))∧w'.cell? ⟨ad10.block,ad10.off+5,none⟩=some (.int .i64 (rd x8_1 5))∧w'.cell? ⟨ad10.block,ad10.off+6,none⟩=some (.int .i64 (rd x8_1 6))) [] spec_l2Block.tab14 spec_l2Block.bits14 ⟨hx27_0,hx28_0,hx29_0,hx30_0,hx31_0⟩ (fun hHeld HT_ HW_=>?_)
    generalize w32.drew=w33 at HO_7 HO_8 HB hx27_0 hx28_0 hx29_0 hx30_0 hx31_0 hHeld ⊢
    refine pt_ 0 101 1 ?_
    refine pt_ 1 102 3 ?_
    refine pt_ 2 103 7 ?_
    refine pt_ 3 104 15 ?_
    refine pt_ 4 105 31 ?_
    refine pt_ 5 106 63 ?_
    refine pt_ 6 107 127 ?_
    refine pt_ 8 109 383 ?_
    refine pt_ 9 110 895 ?_
    refine pt_ 11 112 2943 ?_
    refine pt_ 12 113 7039 ?_
    refine pt_ 14 115 23423 ?_
    refine pt_ 17 118 154495 ?_
    refine pt_ 18 119 416639 ?_
    refine pt_ 19 120 940927 ?_
    refine pt_ 21 122 3038079 ?_
    refine pt_ 22 123 7232383 ?_
    refine tt_ 7 108 7232511 ?_
    refine tt_ 10 111 7233535 ?_
    refine tt_ 13 114 7241727 ?_
    refine pt_ 15 116 7274495 ?_
    refine pt_ 16 117 7340031 ?_
    refine tt_ 20 121 8388607 ?_
    refine tt_ 23 124 16777215 ?_
    refine oz_ 24 125 26 33554431 (fun K hK=>?_)
    refine Kd.R_lit_step (Kd.int .i64) _ 3 ?hg (N:=125) ?hd (xs:=([Go.bits .and .i64 (wrap64 ((wrap64 ((wrap64 ((wrap64 ((wrap64 ((rd x8_1 7) + (Go.bits .xor .i64 (Go.bits .xor .i64 t11 t12) t13))) + (Go.bits .xor .i64 (Go.bits .and .i64 (rd x8_1 4) (rd x8_1 5)) (Go.bits .and .i64 (Go.bits .xor .i64 4294967295 (rd x8_1 4)) (rd x8_1 6))))) + (rd l2 x9_1))) + (rd t1 x9_1))) + (wrap64 ((Go.bits .xor .i64 (Go.bits .xor .i64 t20 t21) t22) + (Go.bits .xor .i64 (Go.bits .xor .i64 (Go.bits .and .i64 (rd x8_1 0) (rd x8_1 1)) (Go.bits .and .i64 (rd x8_1 0) (rd x8_1 2))) (Go.bits .and .i64 (rd x8_1 1) (rd x8_1 2))))))) 4294967295,rd x8_1 0,rd x8_1 1,rd x8_1 2,Go.bits .and .i64 (wrap64 ((rd x8_1 3) + (wrap64 ((wrap64 ((wrap64 ((wrap64 ((rd x8_1 7) + (Go.bits .xor .i64 (Go.bits .xor .i64 t11 t12) t13))) + (Go.bits .xor .i64 (Go.bits .and .i64 (rd x8_1 4) (rd x8_1 5)) (Go.bits .and .i64 (Go.bits .xor .i64 4294967295 (rd x8_1 4)) (rd x8_1 6))))) + (rd l2 x9_1))) + (rd t1 x9_1))))) 4294967295,rd x8_1 4,rd x8_1 5,rd x8_1 6]:List Int)) (inner:=[.int .i64 (Go.bits .and .i64 (wrap64 ((wrap64 ((wrap64 ((wrap64 ((wrap64 ((rd x8_1 7) + (Go.bits .xor .i64 (Go.bits .xor .i64 t11 t12) t13))) + (Go.bits .xor .i64 (Go.bits .and .i64 (rd x8_1 4) (rd x8_1 5)) (Go.bits .and .i64 (Go.bits .xor .i64 4294967295 (rd x8_1 4)) (rd x8_1 6))))) + (rd l2 x9_1))) + (rd t1 x9_1))) + (wrap64 ((Go.bits .xor .i64 (Go.bits .xor .i64 t20 t21) t22) + (Go.bits .xor .i64 (Go.bits .xor .i64 (Go.bits .and .i64 (rd x8_1 0) (rd x8_1 1)) (Go.bits .and .i64 (rd x8_1 0) (rd x8_1 2))) (Go.bits .and .i64 (rd x8_1 1) (rd x8_1 2))))))) 4294967295),.int .i64 (rd x8_1 0),.int .i64 (rd x8_1 1),.int .i64 (rd x8_1 2),.int .i64 (Go.bits .and .i64 (wrap64 ((rd x8_1 3) + (wrap64 ((wrap64 ((wrap64 ((wrap64 ((rd x8_1 7) + (Go.bits .xor .i64 (Go.bits .xor .i64 t11 t12) t13))) + (Go.bits .xor .i64 (Go.bits .and .i64 (rd x8_1 4) (rd x8_1 5)) (Go.bits .and .i64 (Go.bits .xor .i64 4294967295 (rd x8_1 4)) (rd x8_1 6))))) + (rd l2 x9_1))) + (rd t1 x9_1))))) 4294967295),.int .i64 (rd x8_1 4),.int .i64 (rd x8_1 5),.int .i64 (rd x8_1 6)]) (ok:=fun _=>True) (okp:=fun _=>True) ?hr ?hp (fun _ hk=>hk) trivial (Below.refl _ _) (Nat.le_refl _) (by simp) ?_;(case hd=>rfl);(case hg=>rfl);(case hr=>first|(go_simp;done)|(go_simp;rfl));(case hp=>exact (Reps.one (show Kd.M (Kd.int .i64) _ _ _ (Go.bits .and .i64 (wrap64 ((wrap64 ((wrap64 ((wrap64 ((wrap64 ((rd x8_1 7) + (Go.bits .xor .i64 (Go.bits .xor .i64 t11 t12) t13))) + (Go.bits .xor .i64 (Go.bits .and .i64 (rd x8_1 4) (rd x8_1 5)) (Go.bits .and .i64 (Go.bits .xor .i64 4294967295 (rd x8_1 4)) (rd x8_1 6))))) + (rd l2 x9_1))) + (rd t1 x9_1))) + (wrap64 ((Go.bits .xor .i64 (Go.bits .xor .i64 t20 t21) t22) + (Go.bits .xor .i64 (Go.bits .xor .i64 (Go.bits .and .i64 (rd x8_1 0) (rd x8_1 1)) (Go.bits .and .i64 (rd x8_1 0) (rd x8_1 2))) (Go.bits .and .i64 (rd x8_1 1) (rd x8_1 2))))))) 4294967295) [.int .i64 (Go.bits .and .i64 (wrap64 ((wrap64 ((wrap64 ((wrap64 ((wrap64 ((rd x8_1 7) + (Go.bits .xor .i64 (Go.bits .xor .i64 t11 t12) t13))) + (Go.bits .xor .i64 (Go.bits .and .i64 (rd x8_1 4) (rd x8_1 5)) (Go.bits .and .i64 (Go.bits .xor .i64 4294967295 (rd x8_1 4)) (rd x8_1 6))))) + (rd l2 x9_1))) + (rd t1 x9_1))) + (wrap64 ((Go.bits .xor .i64 (Go.bits .xor .i64 t20 t21) t22) + (Go.bits .xor .i64 (Go.bits .xor .i64 (Go.bits .and .i64 (rd x8_1 0) (rd x8_1 1)) (Go.bits .and .i64 (rd x8_1 0) (rd x8_1 2))) (Go.bits .and .i64 (rd x8_1 1) (rd x8_1 2))))))) 4294967295)] from rfl) (Reps.one (show Kd.M (Kd.int .i64) _ _ _ (rd x8_1 0) [.int .i64 (rd x8_1 0)] from rfl) (Reps.one (show Kd.M (Kd.int .i64) _ _ _ (rd x8_1 1) [.int .i64 (rd x8_1 1)] from rfl) (Reps.one (show Kd.M (Kd.int .i64) _ _ _ (rd x8_1 2) [.int .i64 (rd x8_1 2)] from rfl) (Reps.one (show Kd.M (Kd.int .i64) _ _ _ (Go.bits .and .i64 (wrap64 ((rd x8_1 3) + (wrap64 ((wrap64 ((wrap64 ((wrap64 ((rd x8_1 7) + (Go.bits .xor .i64 (Go.bits .xor .i64 t11 t12) t13))) + (Go.bits .xor .i64 (Go.bits .and .i64 (rd x8_1 4) (rd x8_1 5)) (Go.bits .and .i64 (Go.bits .xor .i64 4294967295 (rd x8_1 4)) (rd x8_1 6))))) + (rd l2 x9_1))) + (rd t1 x9_1))))) 4294967295) [.int .i64 (Go.bits .and .i64 (wrap64 ((rd x8_1 3) + (wrap64 ((wrap64 ((wrap64 ((wrap64 ((rd x8_1 7) + (Go.bits .xor .i64 (Go.bits .xor .i64 t11 t12) t13))) + (Go.bits .xor .i64 (Go.bits .and .i64 (rd x8_1 4) (rd x8_1 5)) (Go.bits .and .i64 (Go.bits .xor .i64 4294967295 (rd x8_1 4)) (rd x8_1 6))))) + (rd l2 x9_1))) + (rd t1 x9_1))))) 4294967295)] from rfl) (Reps.one (show Kd.M (Kd.int .i64) _ _ _ (rd x8_1 4) [.int .i64 (rd x8_1 4)] from rfl) (Reps.one (show Kd.M (Kd.int .i64) _ _ _ (rd x8_1 5) [.int .i64 (rd x8_1 5)] from rfl) (Reps.one (show Kd.M (Kd.int .i64) _ _ _ (rd x8_1 6) [.int .i64 (rd x8_1 6)] from rfl) (Reps.none _ _))))))))))
    intro v33 w34 ho35 hb hg_ hnew_
    have HS0_:=(hb.cell (World.block_lt_of_cell? _ _ (hHeld.1))).trans (hHeld.1)
    have HS1_:=(hb.cell (World.block_lt_of_cell? _ _ (hHeld.2.1))).trans (hHeld.2.1)
    have HS2_:=(hb.cell (World.block_lt_of_cell? _ _ (hHeld.2.2.1))).trans (hHeld.2.2.1)
    have HS3_:=(hb.cell (World.block_lt_of_cell? _ _ (hHeld.2.2.2.1))).trans (hHeld.2.2.2.1)
    have HS4_:=(hb.cell (World.block_lt_of_cell? _ _ (hHeld.2.2.2.2))).trans (hHeld.2.2.2.2)
    clear hg_ hnew_
    (first | rw [← Ny32.out] at ho35|(simp only [Int.reduceToNat] at ho35;rw [← Ny32.out] at ho35))
    have HO34:=am_ (Kd.R_lower (Kd.R_new' (Kd.R_new' ho35 (lt_ HO_7)) (lt_ HO_8)) (sz_ HB))
    replace HO_7:=re_ HO_7 ho35 hb
    replace HO_8:=re_ HO_8 ho35 hb
    replace HB:=ss_ HB hb
    clear hb ho35
    refine hK.out _ _ ⟨HS0_,HS1_,HS2_,HS3_,HS4_⟩ (fun hHeld=>?_)
    clear hK K
    refine no_ 125 ?_
    refine pt_ 25 8 67108863 ?_
    refine dn_ ?_
    try go_wp2
    go_roundg k1
    case measure => have:=HK1.out;omega
    case rel => exact ⟨(y32),(wrap64 (x9_1+1)),e1_,H',⟨by have:=HK1.out;omega⟩,⟨kr_ (Kd.R_mono HO_7.out (fun _ hk=>hk.2))⟩,⟨kr_ (Kd.R_mono HO34.out (fun _ hk=>hk.1.2))⟩,⟨bw_ HB⟩⟩
   ·have H':=am_ H
    clear H
    go_wp2
    go_loopg [18] k1 (fun kq v18 w'=>∃ (x8_2:List Int) (x18_2:Int),v18 = .int .i64 x18_2∧Aside0 (spec_l2Block.l1 kq l0 x8_2 x18_2=some r)∧Aside0 (kq≤k1)∧Aside0 (Kd.R (Kd.int .i64) 3 w' w.heap.size (fun _=>True) u8 x8_2)∧Aside0 (Below w.heap.size w w'))
    case atStart => exact ⟨(x8_1),(0),e1_,H',⟨Nat.le_refl _⟩,⟨km_ HO_8⟩,⟨bw_ HB⟩⟩
    case round =>
     clear H'
     try clear c1
     try clear c2
     try clear p2
     try clear c10b0
     obtain ⟨x8_2,x18_2,rfl,HA,HK2,HO_8,HB⟩:=hrel
     cases gk with
     | zero=>exact absurd HA.out (by simp [spec_l2Block.l1])
     | succ k2 =>
      have H:=HA.out
      clear HA
      simp only [spec_l2Block.l1] at H
      replace H:=itd_ H;obtain ⟨c36b0,H⟩|⟨c36b0,H⟩:=H
      ·replace H:=ipd_ H;obtain ⟨c37b0,H⟩:=H
       replace H:=ipd_ H;obtain ⟨c38b0,H⟩:=H
       replace H:=ipd_ H;obtain ⟨c39b0,H⟩:=H
       obtain ⟨y37,hy37⟩:∃ y_:List Int,y_=(x8_2.set (x18_2:Int).toNat (Go.bits .and .i64 (wrap64 ((rd x8_2 x18_2) + (rd l0 x18_2))) 4294967295)):=⟨_,rfl⟩
       replace H:(spec_l2Block.l1 k2 l0 y37 (wrap64 (x18_2+1)))=some r:=yh_ hy37 H
       have Ny37:=am_ hy37
       clear hy37
       have H':=am_ H
       clear H
       try go_wp2
       replace HO_8:=am_ (Kd.R_drew HO_8.out)
       replace HB:=hd_ HB
       obtain ⟨Ao42,co42,eo42⟩:=Kd.R_slice HO_8.out
       subst eo42
       obtain ⟨ad35,e35,hx35_0,p35,q35⟩:=ai_ (Kd.R_reads' HO_8.out).2.2 x18_2
       cases e35
       have p36:0≤(x18_2:Int):=od_
       have q36:x18_2 < (l0.length:Int):=od_
       obtain ⟨ad36,e36,hx36_0⟩:=Kd.at_int HR0.out x18_2 p36 q36
       have hw36_0:=hx36_0
       cases e36
       replace hx36_0:=cw_ HB hx36_0
       replace p36:=eq_true p36
       replace q36:=eq_true q36
       have p40:0≤(x18_2:Int):=od_
       have q40:(x18_2:Int) < ((x8_2.length:Int):Int):=od_
       obtain ⟨go40,co40,eo40,gb40,gl40,cl40,HG40⟩:=Kd.R_form HO_8.out (by omega)
       (first | cases eo40|(injection eo40 with ea_ en_ ec_;(first|subst ea_|(injection ea_ with ea_;subst ea_));subst ec_;clear en_))
       have GB40:=am_ gb40
       have GG40:=am_ HG40
       clear gb40 gl40 HG40
       (first | simp only [add_plain] at hx35_0|skip)
       obtain ⟨hx40_0,hf40_0⟩:=Kd.R_celln 0 HO_8.out (x18_2:Int) p40 q40
       replace p40:=eq_true p40
       replace q40:=eq_true q40
       have HP43:=Kd.R_putn HO_8.out (x18_2:Int) (Go.bits .and .i64 (wrap64 ((rd x8_2 x18_2) + (rd l0 x18_2))) 4294967295)
       rw [← Ny37.out] at HP43
       have HQ43:=am_ HP43
       clear HP43
       refine sw_ 14 (fun w'=>w'.cell? ⟨go40,(x18_2).toNat,none⟩=some (.int .i64 (rd x8_2 x18_2))∧w'.cell? (ad36.add (x18_2).toNat)=some (.int .i64 (rd l0 x18_2))) [13] spec_l2Block.tab18 spec_l2Block.bits18 ⟨hx35_0,(cw_ HB hw36_0)⟩ (fun hHeld HT_ HW_=>?_)
       generalize wr.drew=w41 at HO_8 HB GG40 HQ43 hf40_0 hx40_0 hx35_0 hx36_0 hHeld ⊢
       refine pt_ 0 130 1 ?_
       refine pt_ 1 131 3 ?_
       refine pt_ 2 132 7 ?_
       refine pt_ 3 133 15 ?_
       refine pt_ 4 134 31 ?_
       refine pt_ 6 136 95 ?_
       refine pt_ 7 137 223 ?_
       refine pt_ 8 138 479 ?_
       refine tt_ 5 135 511 ?_
       refine tt_ 9 139 1023 ?_
       refine pt_ 10 140 2047 ?_
       refine pt_ 11 141 4095 ?_
       refine pt_ 12 142 8191 ?_
       refine last_ (i:=13) (N:=none) (lz_ 14 16383) rfl rfl (one_of HT_.out (by kernel_rfl)) (by decide) (fun K hK=>?_)
       refine skip_ (w1:=?_) (by rfl) rfl ?_ ?_
       rotate_left
       ·go_simp
        rfl
       refine hK.out _ _ ?_
       clear hK K
       refine dn_ ?_
       try go_wp2
       go_roundg k2
       case measure => have:=HK1.out;have:=HK2.out;omega
       case rel => exact ⟨(y37),(wrap64 (x18_2+1)),e1_,H',⟨by have:=HK1.out;have:=HK2.out;omega⟩,⟨kr_ HQ43.out⟩,⟨bw_ HB⟩⟩
      ·obtain rfl:=Option.some.inj H
       go_wp2
       go_ret
       exact ⟨_,e2_,kr_ HO_8.out,bw_ HB⟩
mutual
def spec_Digest.l0:Nat->List Int->List Int->List Int->Int->Option (ByteArray)
 | 0,_,_,_,_=>none
 | k+1,x3,x4,x5,x6=>if x6 < (x3.length:Int) then (if 0≤x6 then (if x6≤(wrap64 (x6+64)) then (if (wrap64 (x6+64))≤(x3.length:Int) then ((spec_l2Block.f k x4 ((x3.take ((wrap64 (x6+64)):Int).toNat).drop (x6:Int).toNat) x5).bind fun t14=>(spec_Digest.l0 k x3 t14 x5 (wrap64 (x6+64)))) else (none)) else (none)) else (none)) else (spec_Digest.l1 k x4 (([]:List Int)) 0)
def spec_Digest.l1:Nat->List Int->List Int->Int->Option (ByteArray)
 | 0,_,_,_=>none
 | k+1,x4,x7,x8=>if x8 < 8 then (if 0≤x8 then (if x8 < (x4.length:Int) then ((some (([((rd x4 x8) / 16777216) % 256,((rd x4 x8) / 65536) % 256,((rd x4 x8) / 256) % 256,(rd x4 x8) % 256]:List Int):List Int)).bind fun y24=>(if x7.length+y24.length < 140737488355328 then (spec_Digest.l1 k x4 (x7 ++ y24) (wrap64 (x8+1))) else (none))) else (none)) else (none)) else (some (strOfNums x7))
end
def spec_Digest.f (k:Nat) (l0:List Int):Option (ByteArray):=(spec_Padded.f k l0).bind fun t1=>((spec_l2K.f).bind fun t7=>(spec_Digest.l0 k t1 (([1779033703,3144134277,1013904242,2773480762,1359893119,2600822924,528734635,1541459225]:List Int)) t7 0))
def spec_Digest.T12:Bool × List (List Nat × List Nat):=(true,[([],[]),([],[]),([],[]),([1,2],[1,2]),([3],[3]),([4],[4]),([5],[5]),([],[]),([],[]),([7,8],[7,8]),([9],[9]),([10],[10]),([11],[11]),([],[]),([],[]),([13,14],[13,14]),([15],[15]),([16],[16]),([17],[17]),([],[]),([],[]),([19,20],[19,20]),([21],[21]),([22],[22]),([6,12,18,23],[6,12,18,23]),([0,24],[0,24]),([25,25,0,1,2,3,4,5,6,7,8,9,10,11,12,13,14,15,16,17,18,19,20,21,22,23,24,25],[0,25])])
def spec_Digest.B12:List Nat:=[0,0,0,6,14,30,62,0,0,384,896,1920,3968,0,0,24576,57344,122880,253952,0,0,1572864,3670016,7864320,16777214,33554431,67108863]
theorem spec_Digest.tab12:rtab .any (opsOf Tryz.f119 12)=spec_Digest.T12:=by kernel_rfl
theorem spec_Digest.bits12:waitsOk spec_Digest.T12.2 spec_Digest.B12=true:=by kernel_rfl
theorem spec_Digest.calls (k:Nat) (A0:Option Addr) (c0:Nat) (l0:List Int) (r:ByteArray) (w:World) (hr0:Kd.C (Kd.int .u8) w A0 l0.length l0) (hc0:l0.length≤c0) (h:spec_Digest.f k l0=some r) :
  Calls Tryz.prog 119 #[.slice A0 l0.length c0] w fun e w'=>e = .returned (.string r)∧Below w.heap.size w w':=by
 have HR0:=am_ hr0
 have HC0:=am_ hc0
 clear hr0 hc0
 have HB:=h0_ w
 have H:((spec_Padded.f k l0).bind fun t1=>((spec_l2K.f).bind fun t7=>(spec_Digest.l0 k t1 (([1779033703,3144134277,1013904242,2773480762,1359893119,2600822924,528734635,1541459225]:List Int)) t7 0)))=some r:=h
 clear h
 replace H:=bi_ H;obtain ⟨t1,A2,H⟩:=H
 obtain ⟨y604,hy4⟩:∃ y_:List Int,y_=(([1779033703,3144134277,1013904242,2773480762,1359893119,2600822924,528734635,1541459225]:List Int)):=⟨_,rfl⟩
 replace H:((spec_l2K.f).bind fun t7=>(spec_Digest.l0 k t1 y604 t7 0))=some r:=yh_ hy4 H
 have Ny4:=am_ hy4
 clear hy4
 replace H:=bi_ H;obtain ⟨t7,A3,H⟩:=H
 have H':=am_ H
 clear H
 go_enter Tryz.func119,Tryz.ntmps119
 go_wp2_with (first|((with_reducible refine gq_ 140 10 ?_);refine gc_ 10 Tryz.func140 (spec_Padded.calls k _ _ l0 t1 _ (cr_ HR0.out) HC0.out A2.out) ?_;rintro e w4 ⟨v2,rfl,ho0,hb⟩;refine ⟨_,rfl,?_⟩;have HO3:=rlo_ ho0 HB;replace HB:=ss_ HB hb;clear hb ho0)|((with_reducible refine gd_ 11 ?_);refine rl_ (Kd.int .i64) 3 11 ([1779033703,3144134277,1013904242,2773480762,1359893119,2600822924,528734635,1541459225]:List Int) [.int .i64 1779033703,.int .i64 3144134277,.int .i64 1013904242,.int .i64 2773480762,.int .i64 1359893119,.int .i64 2600822924,.int .i64 528734635,.int .i64 1541459225] ?_;intro v5 w5 ho6 hb hg_ hnew_;clear hg_ hnew_;(first|rw [← Ny4.out] at ho6|(simp only [Int.reduceToNat] at ho6;rw [← Ny4.out] at ho6));replace HO3:=rb_ HO3 hb;have HO6:=rlo_ ho6 HB;replace HB:=ss_ HB hb;clear hb ho6)|((with_reducible refine gq_ 141 12 ?_);refine gc_ 12 Tryz.func141 (spec_l2K.calls  t7 _ A3.out) ?_;rintro e w7 ⟨v608,rfl,ho0,hb⟩;refine ⟨_,rfl,?_⟩;replace HO3:=rb_ HO3 hb;have HO9:=am_ (Kd.R_lower (Kd.R_new' ho0 (lt_ HO6)) (sz_ HB));replace HO6:=re_ HO6 ho0 hb;replace HB:=ss_ HB hb;clear hb ho0))
 go_loopg [4,6] k (fun kq v4 v6 w'=>∃ (x4_1:List Int) (x6_1:Int),v6 = .int .i64 x6_1∧Aside0 (spec_Digest.l0 kq t1 x4_1 t7 x6_1=some r)∧Aside0 (kq≤k)∧Aside0 (Kd.R (Kd.int .u8) 5 w' w.heap.size (fun _=>True) v2 t1)∧Aside0 (Kd.R (Kd.int .i64) 3 w' w.heap.size (fun k_=>some k_ ≠ (v608:Value).ownBlock) v4 x4_1)∧Aside0 (Kd.R (Kd.int .i64) 3 w' w.heap.size (fun k_=>some k_ ≠ (v4:Value).ownBlock) v608 t7)∧Aside0 (Below w.heap.size w w'))
 case atStart => exact ⟨(y604),(0),e1_,H',⟨Nat.le_refl _⟩,⟨kr_ HO3.out⟩,⟨kr_ (Kd.R_mono HO6.out (fun _ hk=>hk.2))⟩,⟨kr_ (Kd.R_mono HO9.out (fun _ hk=>hk.2))⟩,⟨bw_ HB⟩⟩
 case round =>
  clear H'
  obtain ⟨x4_1,x6_1,rfl,HA,HK1,HO_3,HO_4,HO_5,HB⟩:=hrel
  cases gk with
  | zero=>exact absurd HA.out (by simp [spec_Digest.l0])
  | succ k1 =>
   have H:=HA.out
   clear HA
   simp only [spec_Digest.l0] at H
   replace H:=itd_ H;obtain ⟨c8b0,H⟩|⟨c8b0,H⟩:=H
   ·replace H:=ip_ H;obtain ⟨c9,H⟩:=H
    have c9b0:=eq_true c9
    have c9b1:=decide_eq_true c9
    clear c9
    replace H:=ip_ H;obtain ⟨c10,H⟩:=H
    have c10b0:=eq_true c10
    have c10b1:=decide_eq_true c10
    replace H:=ip_ H;obtain ⟨c11,H⟩:=H
    have c11b0:=eq_true c11
    have c11b1:=decide_eq_true c11
    obtain ⟨y10,hy10⟩:∃ y_:List Int,y_=((t1.take ((wrap64 (x6_1+64)):Int).toNat).drop (x6_1:Int).toNat):=⟨_,rfl⟩
    replace H:((spec_l2Block.f k1 x4_1 y10 t7).bind fun t14=>(spec_Digest.l0 k1 t1 t14 t7 (wrap64 (x6_1+64))))=some r:=yh_ hy10 H
    have Ny10:=am_ hy10
    clear hy10
    replace H:=bi_ H;obtain ⟨t14,A12,H⟩:=H
    have H':=am_ H
    clear H
    obtain ⟨Ao13,co13,eo13⟩:=Kd.R_slice HO_3.out
    subst eo13
    have q14:((wrap64 (x6_1+64)):Int)≤((t1.length:Int):Int):=od_
    obtain ⟨i014,hi014,_,hsz14,_⟩:=info_parts info5
    have hroom14:t1.length≤co13:=(cl_ HO_3)
    have hC14:Kd.C (Kd.int .u8) _ Ao13 t1.length t1:=(Kd.R_reads' HO_3.out).2.2
    have ql14:(x6_1:Int)≤((wrap64 (x6_1+64)):Int):=od_
    have q014:(0:Int)≤(x6_1:Int):=od_
    have hcut14:=cut_mid (P:=Tryz.prog) 27 5 .i64 .i64 Tryz.underlying27 hi014 1 hsz14 Ao13 t1.length co13 x6_1 (wrap64 (x6_1+64)) q014 ql14 q14 hroom14
    have hr14:=Kd.C_mid (lo:=(x6_1:Int).toNat) (hi:=((wrap64 (x6_1+64)):Int).toNat) (c:=co13) hC14 (by omega) (by omega) hroom14
    obtain ⟨A14,hA14⟩:∃ A1,A1=(if co13=(x6_1:Int).toNat then Ao13 else (Ao13:Option Addr).map (·.add ((x6_1:Int).toNat * 1))):=⟨_,rfl⟩
    obtain ⟨c14,hc14⟩:∃ c1,c1=co13 - (x6_1:Int).toNat:=⟨_,rfl⟩
    have hy14:y10.length=((wrap64 (x6_1+64)):Int).toNat - (x6_1:Int).toNat:=(by rw [Ny10.out,List.length_drop,List.length_take] <;> omega)
    rw [show ((t1).take ((wrap64 (x6_1+64)):Int).toNat).drop (x6_1:Int).toNat=y10 from Ny10.out.symm] at hr14
    replace hr14:Kd.C (Kd.int .u8) _ A14 y10.length y10:=(by rw [hA14];exact hr14)
    rw [← hy14,← hA14,← hc14] at hcut14
    have HR13:=am_ hr14
    have HC13:=am_ (show y10.length≤c14 from by rw [hy14,hc14];exact Nat.sub_le_sub_right (Nat.le_trans (by omega) hroom14) _)
    clear hr14 hC14 hroom14 hi014 hsz14 hc14
    have KY14:=am_ hy14
    have KA14:=am_ hA14
    clear hy14 hA14
    have KL14:=am_ (show ((wrap64 (x6_1+64)):Int).toNat≤t1.length from by omega)
    have KM14:=am_ (show (x6_1:Int).toNat≤((wrap64 (x6_1+64)):Int).toNat from by omega)
    replace q14:=eq_true q14
    obtain ⟨Ao15,co15,eo15⟩:=Kd.R_slice HO_4.out
    subst eo15
    obtain ⟨Ao16,co16,eo16⟩:=Kd.R_slice HO_5.out
    subst eo16
    go_wp2_with (first|((with_reducible refine gk_ 142 ?_);refine gl_ 26 Tryz.func142 #[.slice Ao15 x4_1.length co15,.slice A14 y10.length c14,.slice Ao16 t7.length co16] ?_;(with_reducible refine (spec_l2Block.calls k1 _ _ x4_1 _ _ y10 _ _ t7 t14 _ ?side1 ?side2 ?side3 ?side4 ?side5 ?side6 A12.out).mono ?_);(case side1=>exact ch_ HO_4);(case side2=>exact (cl_ HO_4));(case side3=>exact cr_ (by repeat (first|(with_reducible exact HR13.out)|(with_reducible refine Kd.C_alloc ?_ _)|(with_reducible refine Kd.C_drewN ?_ _)|(with_reducible refine Kd.C_drew ?_)|exact HR13.out)));(case side4=>exact HC13.out);(case side5=>exact ch_ HO_5);(case side6=>exact (cl_ HO_5));rintro e w17 ⟨v15,rfl,ho0,hb⟩;refine ⟨_,rfl,?_⟩;replace HO_3:=rb_ HO_3 hb;have HO16:=am_ (Kd.R_lower (Kd.R_new' (Kd.R_new' ho0 (lt_ HO_4)) (lt_ HO_5)) (sz_ HB));replace HO_4:=re_ HO_4 ho0 hb;replace HO_5:=re_ HO_5 ho0 hb;replace HR13:=am_ (Kd.C_below (by repeat (first|(with_reducible exact HR13.out)|(with_reducible refine Kd.C_alloc ?_ _)|(with_reducible refine Kd.C_drewN ?_ _)|(with_reducible refine Kd.C_drew ?_)|exact HR13.out)) hb);replace HB:=ss_ HB hb;clear hb ho0))
    go_roundg k1
    case measure => have:=HK1.out;omega
    case rel => exact ⟨(t14),(wrap64 (x6_1+64)),e1_,H',⟨by have:=HK1.out;omega⟩,⟨kr_ HO_3.out⟩,⟨kr_ (Kd.R_mono HO16.out (fun _ hk=>hk.2))⟩,⟨kr_ (Kd.R_mono HO_5.out (fun _ hk=>hk.2))⟩,⟨bw_ HB⟩⟩
   ·obtain ⟨y17,hy17⟩:∃ y_:List Int,y_=(([]:List Int)):=⟨_,rfl⟩
    replace H:(spec_Digest.l1 k1 x4_1 y17 0)=some r:=yh_ hy17 H
    have Ny17:=am_ hy17
    clear hy17
    have H':=am_ H
    clear H
    obtain ⟨Ao18,co18,eo18⟩:=Kd.R_slice HO_3.out
    subst eo18
    go_wp2_with (first|((with_reducible refine gd_ 27 ?_);refine rl_ (Kd.int .u8) 5 27 ([]:List Int) [] ?_;intro v18 w19 ho20 hb hg_ hnew_;clear hg_ hnew_;(first|rw [← Ny17.out] at ho20|(simp only [Int.reduceToNat] at ho20;rw [← Ny17.out] at ho20));replace HO_4:=rb_ HO_4 hb;have HO19:=am_ (Kd.R_lower (Kd.R_new' ho20 (lt_ HO_3)) (sz_ HB));replace HO_3:=re_ HO_3 ho20 hb;replace HB:=ss_ HB hb;clear hb ho20))
    go_loopg [7,8] k1 (fun kq v7 v8 w'=>∃ (x7_2:List Int) (x8_2:Int),v8 = .int .i64 x8_2∧Aside0 (spec_Digest.l1 kq x4_1 x7_2 x8_2=some r)∧Aside0 (kq≤k1)∧Aside0 (Kd.R (Kd.int .i64) 3 w' w.heap.size (fun _=>True) u4 x4_1)∧Aside0 (Kd.R (Kd.int .u8) 5 w' w.heap.size (fun _=>True) v7 x7_2)∧Aside0 (Below w.heap.size w w'))
    case atStart => exact ⟨(y17),(0),e1_,H',⟨Nat.le_refl _⟩,⟨km_ HO_4⟩,⟨km_ HO19⟩,⟨bw_ HB⟩⟩
    case round =>
     clear H'
     try clear c1
     try clear p2
     try clear c8b0
     obtain ⟨x7_2,x8_2,rfl,HA,HK2,HO_4,HO_7,HB⟩:=hrel
     cases gk with
     | zero=>exact absurd HA.out (by simp [spec_Digest.l1])
     | succ k2 =>
      have H:=HA.out
      clear HA
      simp only [spec_Digest.l1] at H
      replace H:=itd_ H;obtain ⟨c21b0,H⟩|⟨c21b0,H⟩:=H
      ·replace H:=ipd_ H;obtain ⟨c22b0,H⟩:=H
       replace H:=ipd_ H;obtain ⟨c23b0,H⟩:=H
       obtain ⟨y24,Ny24,H⟩:=sb_ (([((rd x4_1 x8_2) / 16777216) % 256,((rd x4_1 x8_2) / 65536) % 256,((rd x4_1 x8_2) / 256) % 256,(rd x4_1 x8_2) % 256]:List Int)) H
       replace H:=ip_ H;obtain ⟨c24,H⟩:=H
       have LMc24:=am_ c24
       clear c24
       obtain ⟨y27,hy27⟩:∃ y_:List Int,y_=(x7_2 ++ y24):=⟨_,rfl⟩
       replace H:(spec_Digest.l1 k2 x4_1 y27 (wrap64 (x8_2+1)))=some r:=yh_ hy27 H
       have Ny27:=am_ hy27
       clear hy27
       have H':=am_ H
       clear H
       try go_wp2
       replace HO_4:=am_ (Kd.R_drew HO_4.out)
       replace HO_7:=am_ (Kd.R_drew HO_7.out)
       replace HB:=hd_ HB
       obtain ⟨Ao26,co26,eo26⟩:=Kd.R_slice HO_4.out
       subst eo26
       obtain ⟨ad20,e20,hx20_0,p20,q20⟩:=ai_ (Kd.R_reads' HO_4.out).2.2 x8_2
       cases e20
       have p21:0≤(x8_2:Int):=od_
       have q21:x8_2 < (x4_1.length:Int):=od_
       obtain ⟨ad21,e21,hx21_0⟩:=Kd.at_int (Kd.R_reads' HO_4.out).2.2 x8_2 p21 q21
       obtain rfl:ad20=ad21:=(by injection e21)
       replace p21:=eq_true p21
       replace q21:=eq_true q21
       have p22:0≤(x8_2:Int):=od_
       have q22:x8_2 < (x4_1.length:Int):=od_
       obtain ⟨ad22,e22,hx22_0⟩:=Kd.at_int (Kd.R_reads' HO_4.out).2.2 x8_2 p22 q22
       obtain rfl:ad20=ad22:=(by injection e22)
       replace p22:=eq_true p22
       replace q22:=eq_true q22
       have p23:0≤(x8_2:Int):=od_
       have q23:x8_2 < (x4_1.length:Int):=od_
       obtain ⟨ad23,e23,hx23_0⟩:=Kd.at_int (Kd.R_reads' HO_4.out).2.2 x8_2 p23 q23
       obtain rfl:ad20=ad23:=(by injection e23)
       replace p23:=eq_true p23
       replace q23:=eq_true q23
       refine sw_ 27 (fun w'=>w'.cell? (ad20.add (x8_2).toNat)=some (.int .i64 (rd x4_1 x8_2))∧w'.cell? (ad20.add (x8_2).toNat)=some (.int .i64 (rd x4_1 x8_2))∧w'.cell? (ad20.add (x8_2).toNat)=some (.int .i64 (rd x4_1 x8_2))∧w'.cell? (ad20.add (x8_2).toNat)=some (.int .i64 (rd x4_1 x8_2))) [25] spec_Digest.tab12 spec_Digest.bits12 ⟨hx20_0,hx21_0,hx22_0,hx23_0⟩ (fun hHeld HT_ HW_=>?_)
       generalize wr.drew=w25 at HO_4 HO_7 HB hx20_0 hx21_0 hx22_0 hx23_0 hHeld ⊢
       refine pt_ 0 32 1 ?_
       refine pt_ 1 33 3 ?_
       refine pt_ 2 34 7 ?_
       refine pt_ 3 35 15 ?_
       refine pt_ 7 39 143 ?_
       refine pt_ 8 40 399 ?_
       refine pt_ 9 41 911 ?_
       refine pt_ 13 45 9103 ?_
       refine pt_ 14 46 25487 ?_
       refine pt_ 15 47 58255 ?_
       refine pt_ 19 51 582543 ?_
       refine pt_ 20 52 1631119 ?_
       refine pt_ 21 53 3728271 ?_
       refine tt_ 4 36 3728287 ?_
       refine pt_ 5 37 3728319 ?_
       refine pt_ 6 38 3728383 ?_
       refine tt_ 10 42 3729407 ?_
       refine pt_ 11 43 3731455 ?_
       refine pt_ 12 44 3735551 ?_
       refine tt_ 16 48 3801087 ?_
       refine pt_ 17 49 3932159 ?_
       refine pt_ 18 50 4194303 ?_
       refine tt_ 22 54 8388607 ?_
       refine pt_ 23 55 16777215 ?_
       refine oz_ 24 56 27 33554431 (fun K hK=>?_)
       refine Kd.R_lit_step (Kd.int .u8) _ 5 ?hg (N:=56) ?hd (xs:=([((rd x4_1 x8_2) / 16777216) % 256,((rd x4_1 x8_2) / 65536) % 256,((rd x4_1 x8_2) / 256) % 256,(rd x4_1 x8_2) % 256]:List Int)) (inner:=[.int .u8 (((rd x4_1 x8_2) / 16777216) % 256),.int .u8 (((rd x4_1 x8_2) / 65536) % 256),.int .u8 (((rd x4_1 x8_2) / 256) % 256),.int .u8 ((rd x4_1 x8_2) % 256)]) (ok:=fun _=>True) (okp:=fun _=>True) ?hr ?hp (fun _ hk=>hk) trivial (Below.refl _ _) (Nat.le_refl _) (by simp) ?_;(case hd=>rfl);(case hg=>rfl);(case hr=>first|(go_simp;done)|(go_simp;rfl));(case hp=>exact (Reps.one (show Kd.M (Kd.int .u8) _ _ _ (((rd x4_1 x8_2) / 16777216) % 256) [.int .u8 (((rd x4_1 x8_2) / 16777216) % 256)] from rfl) (Reps.one (show Kd.M (Kd.int .u8) _ _ _ (((rd x4_1 x8_2) / 65536) % 256) [.int .u8 (((rd x4_1 x8_2) / 65536) % 256)] from rfl) (Reps.one (show Kd.M (Kd.int .u8) _ _ _ (((rd x4_1 x8_2) / 256) % 256) [.int .u8 (((rd x4_1 x8_2) / 256) % 256)] from rfl) (Reps.one (show Kd.M (Kd.int .u8) _ _ _ ((rd x4_1 x8_2) % 256) [.int .u8 ((rd x4_1 x8_2) % 256)] from rfl) (Reps.none _ _))))))
       intro v25 w27 ho28 hb hg_ hnew_
       have HS0_:=(hb.cell (World.block_lt_of_cell? _ _ (hHeld.1))).trans (hHeld.1)
       have HS1_:=(hb.cell (World.block_lt_of_cell? _ _ (hHeld.2.1))).trans (hHeld.2.1)
       have HS2_:=(hb.cell (World.block_lt_of_cell? _ _ (hHeld.2.2.1))).trans (hHeld.2.2.1)
       have HS3_:=(hb.cell (World.block_lt_of_cell? _ _ (hHeld.2.2.2))).trans (hHeld.2.2.2)
       clear hg_ hnew_
       (first | rw [← Ny24.out] at ho28|(simp only [Int.reduceToNat] at ho28;rw [← Ny24.out] at ho28))
       replace HO_4:=rb_ HO_4 hb
       have HO26:=am_ (Kd.R_lower (Kd.R_new' ho28 (lt_ HO_7)) (sz_ HB))
       replace HO_7:=re_ HO_7 ho28 hb
       replace HB:=ss_ HB hb
       clear hb ho28
       obtain ⟨Ao30,co30,eo30⟩:=Kd.R_slice HO26.out
       subst eo30
       refine hK.out _ _ ⟨HS0_,HS1_,HS2_,HS3_⟩ (fun hHeld=>?_)
       clear hK K
       refine no_ 56 ?_
       refine last_ (i:=25) (N:=some 57) (lz_ 27 67108863) rfl rfl (one_of HT_.out (by kernel_rfl)) (by decide) (fun K hK=>?_)
       refine Kd.R_append_rows_step (Kd.int .u8) (w0:=w) w.heap.size (by rfl) (.tmp 32) (.tmp 56) 27 5 (.int .u8 0) 1 rfl Tryz.underlying27 info5 rfl (by decide) (by omega) u7 x7_2 y24 _ _ _ (fun k_=>some k_ ≠ (.slice Ao30 y24.length co30:Value).ownBlock) (fun _=>False) rfl rfl ?aO ?aR (fun _ _ h=>h) (fun _ h=>h.elim) ?aF ?aB ?aS ?aL ?_
       (case aR=>repeat (first|exact (Kd.R_reads' HO26.out).2.2|(with_reducible refine Kd.C_alloc ?_ _)|(with_reducible refine Kd.C_drewN ?_ _)|(with_reducible refine Kd.C_drew ?_)))
       (case aB=>exact (bw_ HB))
       (case aF=>exact (fun k_ hk=>Kd.fresh' (lt_ HO26) k_ hk))
       (case aO=>exact (kr_ (Kd.R_mono HO_7.out (fun _ hk=>hk.2))))
       (case aS=>exact (sz_ HB))
       (case aL=>have:=LMc24.out;omega)
       intro v28 w29 ho hb hg hat
       rw [← Ny27.out] at ho
       replace HO_4:=am_ (Kd.R_over' (kr_ HO_4.out) (Kd.R_typed (kr_ HO_7.out)) (by decide) hg)
       replace HB:=am_ hb
       have HO29:=am_ ho
       clear HO_7
       clear ho hb hg hat
       refine hK.out _ _ ?_
       clear hK K
       refine no_ 57 ?_
       refine pt_ 26 7 134217727 ?_
       refine dn_ ?_
       try go_wp2
       go_roundg k2
       case measure => have:=HK1.out;have:=HK2.out;omega
       case rel => exact ⟨(y27),(wrap64 (x8_2+1)),e1_,H',⟨by have:=HK1.out;have:=HK2.out;omega⟩,⟨kr_ HO_4.out⟩,⟨km_ HO29⟩,⟨bw_ HB⟩⟩
      ·obtain rfl:=Option.some.inj H
       have hcv31:=own_string (P:=Tryz.prog) Tryz.underlying27 Tryz.underlying5 Tryz.underlying9 (Kd.own_of_R HO_7.out)
       go_wp2
       go_ret
       exact ⟨e2_,bw_ HB⟩
def spec_NodeHash.f (k:Nat) (a0:ByteArray) (a1:ByteArray):Option (ByteArray):=(some (([1]:List Int):List Int)).bind fun y601=>(if y601.length+a0.size < 140737488355328 then ((some (y601 ++ bytesOf a0:List Int)).bind fun y604=>(if y604.length+a1.size < 140737488355328 then ((spec_Digest.f k (y604 ++ bytesOf a1)).bind fun t10=>(some t10)) else (none))) else (none))
theorem spec_NodeHash.calls (k:Nat) (a0:ByteArray) (a1:ByteArray) (r:ByteArray) (w:World) (h:spec_NodeHash.f k a0 a1=some r) :
  Calls Tryz.prog 162 #[.string a0,.string a1] w fun e w'=>e = .returned (.string r)∧Below w.heap.size w w':=by
 have HB:=h0_ w
 have H:((some (([1]:List Int):List Int)).bind fun y601=>(if y601.length+a0.size < 140737488355328 then ((some (y601 ++ bytesOf a0:List Int)).bind fun y604=>(if y604.length+a1.size < 140737488355328 then ((spec_Digest.f k (y604 ++ bytesOf a1)).bind fun t10=>(some t10)) else (none))) else (none)))=some r:=h
 clear h
 obtain ⟨y601,Ny1,H⟩:=sb_ (([1]:List Int)) H
 replace H:=ip_ H;obtain ⟨c3,H⟩:=H
 have LMc3:=am_ c3
 clear c3
 obtain ⟨y604,Ny4,H⟩:=sb_ (y601 ++ bytesOf a0) H
 replace H:=ip_ H;obtain ⟨c4,H⟩:=H
 have LMc4:=am_ c4
 clear c4
 obtain ⟨y607,hy7⟩:∃ y_:List Int,y_=(y604 ++ bytesOf a1):=⟨_,rfl⟩
 replace H:((spec_Digest.f k y607).bind fun t10=>(some t10))=some r:=yh_ hy7 H
 have Ny7:=am_ hy7
 clear hy7
 replace H:=bi_ H;obtain ⟨t10,A5,H⟩:=H
 obtain rfl:=Option.some.inj H
 go_enter Tryz.func162,Tryz.ntmps162
 go_wp2_with (first|((with_reducible refine gd_ 5 ?_);refine rl_ (Kd.int .u8) 5 5 ([1]:List Int) [.int .u8 1] ?_;intro v2 w6 ho7 hb hg_ hnew_;clear hg_ hnew_;(first|rw [← Ny1.out] at ho7|(simp only [Int.reduceToNat] at ho7;rw [← Ny1.out] at ho7));have HO3:=rlo_ ho7 HB;replace HB:=ss_ HB hb;clear hb ho7)|(at_builtin;refine print_append_str (w0:=w) w.heap.size rfl (.tmp 5) _ 27 9 5 rfl Tryz.underlying27 Tryz.underlying9 info5 v2 y601 a0 rfl rfl ?aO ?aB ?aS ?aL ?_;(case aB=>exact (bw_ HB));(case aO=>exact (Kd.own_of_R (kr_ HO3.out)));(case aS=>exact (sz_ HB));(case aL=>have:=LMc3.out;omega);intro v5 w8 ho0 hb hg;have ho:=Kd.R_of_own (h1:=fun _=>rfl) (ok:=fun _=>True) ho0 (fun _ _=>trivial);clear ho0;have hat:=True.intro;rw [← Ny4.out] at ho;change Kd.R (Kd.int .u8) 5 w8 w.heap.size (fun _=>True) v5 y604 at ho;replace HB:=am_ hb;have HO6:=am_ ho;clear HO3;clear ho hb hg hat)|(at_builtin;refine print_append_str (w0:=w) w.heap.size rfl (.tmp 7) _ 27 9 5 rfl Tryz.underlying27 Tryz.underlying9 info5 v5 y604 a1 rfl rfl ?aO ?aB ?aS ?aL ?_;(case aB=>exact (bw_ HB));(case aO=>exact (Kd.own_of_R (kr_ HO6.out)));(case aS=>exact (sz_ HB));(case aL=>have:=LMc4.out;omega);intro v8 w9 ho0 hb hg;have ho:=Kd.R_of_own (h1:=fun _=>rfl) (ok:=fun _=>True) ho0 (fun _ _=>trivial);clear ho0;have hat:=True.intro;rw [← Ny7.out] at ho;change Kd.R (Kd.int .u8) 5 w9 w.heap.size (fun _=>True) v8 y607 at ho;replace HB:=am_ hb;have HO9:=am_ ho;clear HO6;clear ho hb hg hat;obtain ⟨Ao10,co10,eo10⟩:=Kd.R_slice HO9.out;subst eo10)|((with_reducible refine gq_ 119 10 ?_);refine gc_ 10 Tryz.func119 (spec_Digest.calls k _ _ y607 t10 _ (ch_ HO9) (cl_ HO9) A5.out) ?_;rintro e w11 ⟨rfl,hb⟩;refine ⟨_,rfl,?_⟩;replace HO9:=rb_ HO9 hb;replace HB:=ss_ HB hb;clear hb))
 go_ret
 exact ⟨e2_,bw_ HB⟩
def spec_LeafHash.f (k:Nat) (a0:ByteArray):Option (ByteArray):=(some (([0]:List Int):List Int)).bind fun y601=>(if y601.length+a0.size < 140737488355328 then ((spec_Digest.f k (y601 ++ bytesOf a0)).bind fun t7=>(some t7)) else (none))
theorem spec_LeafHash.calls (k:Nat) (a0:ByteArray) (r:ByteArray) (w:World) (h:spec_LeafHash.f k a0=some r) :
  Calls Tryz.prog 160 #[.string a0] w fun e w'=>e = .returned (.string r)∧Below w.heap.size w w':=by
 have HB:=h0_ w
 have H:((some (([0]:List Int):List Int)).bind fun y601=>(if y601.length+a0.size < 140737488355328 then ((spec_Digest.f k (y601 ++ bytesOf a0)).bind fun t7=>(some t7)) else (none)))=some r:=h
 clear h
 obtain ⟨y601,Ny1,H⟩:=sb_ (([0]:List Int)) H
 replace H:=ip_ H;obtain ⟨c2,H⟩:=H
 have LMc2:=am_ c2
 clear c2
 obtain ⟨y604,hy4⟩:∃ y_:List Int,y_=(y601 ++ bytesOf a0):=⟨_,rfl⟩
 replace H:((spec_Digest.f k y604).bind fun t7=>(some t7))=some r:=yh_ hy4 H
 have Ny4:=am_ hy4
 clear hy4
 replace H:=bi_ H;obtain ⟨t7,A3,H⟩:=H
 obtain rfl:=Option.some.inj H
 go_enter Tryz.func160,Tryz.ntmps160
 go_wp2_with (first|((with_reducible refine gd_ 3 ?_);refine rl_ (Kd.int .u8) 5 3 ([0]:List Int) [.int .u8 0] ?_;intro v2 w4 ho5 hb hg_ hnew_;clear hg_ hnew_;(first|rw [← Ny1.out] at ho5|(simp only [Int.reduceToNat] at ho5;rw [← Ny1.out] at ho5));have HO3:=rlo_ ho5 HB;replace HB:=ss_ HB hb;clear hb ho5)|(at_builtin;refine print_append_str (w0:=w) w.heap.size rfl (.tmp 3) _ 27 9 5 rfl Tryz.underlying27 Tryz.underlying9 info5 v2 y601 a0 rfl rfl ?aO ?aB ?aS ?aL ?_;(case aB=>exact (bw_ HB));(case aO=>exact (Kd.own_of_R (kr_ HO3.out)));(case aS=>exact (sz_ HB));(case aL=>have:=LMc2.out;omega);intro v5 w6 ho0 hb hg;have ho:=Kd.R_of_own (h1:=fun _=>rfl) (ok:=fun _=>True) ho0 (fun _ _=>trivial);clear ho0;have hat:=True.intro;rw [← Ny4.out] at ho;change Kd.R (Kd.int .u8) 5 w6 w.heap.size (fun _=>True) v5 y604 at ho;replace HB:=am_ hb;have HO6:=am_ ho;clear HO3;clear ho hb hg hat;obtain ⟨Ao7,co7,eo7⟩:=Kd.R_slice HO6.out;subst eo7)|((with_reducible refine gq_ 119 6 ?_);refine gc_ 6 Tryz.func119 (spec_Digest.calls k _ _ y604 t7 _ (ch_ HO6) (cl_ HO6) A3.out) ?_;rintro e w8 ⟨rfl,hb⟩;refine ⟨_,rfl,?_⟩;replace HO6:=rb_ HO6 hb;replace HB:=ss_ HB hb;clear hb))
 go_ret
 exact ⟨e2_,bw_ HB⟩
def impl_half.l0:Nat->Int->Int->Option (Int)
 | 0,_,_=>none
 | k+1,x0,x3=>if (wrap64 (2 * x3)) < x0 then (impl_half.l0 k x0 (wrap64 (x3 * 2))) else (some x3)
def impl_half.f (k:Nat) (a0:Int):Option (Int):=impl_half.l0 k a0 1
theorem impl_half.calls (k:Nat) (a0:Int) (r:Int) (w:World) (h:impl_half.f k a0=some r) :
  Calls Tryz.prog 135 #[.int .i64 a0] w fun e w'=>e = .returned (.int .i64 r)∧Below w.heap.size w w':=by
 have HB:=h0_ w
 have H:(impl_half.l0 k a0 1)=some r:=h
 clear h
 have H':=am_ H
 clear H
 go_enter Tryz.func135,Tryz.ntmps135
 go_wp2
 go_loopg [3] k (fun kq v3 w'=>∃ (x3_1:Int),v3 = .int .i64 x3_1∧Aside0 (impl_half.l0 kq a0 x3_1=some r)∧Aside0 (kq≤k)∧Aside0 (Below w.heap.size w w'))
 case atStart => exact ⟨(1),e1_,H',⟨Nat.le_refl _⟩,⟨bw_ HB⟩⟩
 case round =>
  clear H'
  obtain ⟨x3_1,rfl,HA,HK1,HB⟩:=hrel
  cases gk with
  | zero=>exact absurd HA.out (by simp [impl_half.l0])
  | succ k1 =>
   have H:=HA.out
   clear HA
   simp only [impl_half.l0] at H
   replace H:=itd_ H;obtain ⟨c2b0,H⟩|⟨c2b0,H⟩:=H
   ·have H':=am_ H
    clear H
    go_wp2
    go_roundg k1
    case measure => have:=HK1.out;omega
    case rel => exact ⟨(wrap64 (x3_1 * 2)),e1_,H',⟨by have:=HK1.out;omega⟩,⟨bw_ HB⟩⟩
   ·obtain rfl:=Option.some.inj H
    go_wp2
    go_ret
    exact ⟨e2_,bw_ HB⟩
def spec_l6Half.l0:Nat->Int->Int->Option (Int)
 | 0,_,_=>none
 | k+1,x0,x3=>if (wrap64 (2 * x3)) < x0 then (spec_l6Half.l0 k x0 (wrap64 (2 * x3))) else (some x3)
def spec_l6Half.f (k:Nat) (a0:Int):Option (Int):=spec_l6Half.l0 k a0 1
theorem spec_l6Half.calls (k:Nat) (a0:Int) (r:Int) (w:World) (h:spec_l6Half.f k a0=some r) :
  Calls Tryz.prog 161 #[.int .i64 a0] w fun e w'=>e = .returned (.int .i64 r)∧Below w.heap.size w w':=by
 have HB:=h0_ w
 have H:(spec_l6Half.l0 k a0 1)=some r:=h
 clear h
 have H':=am_ H
 clear H
 go_enter Tryz.func161,Tryz.ntmps161
 go_wp2
 go_loopg [3] k (fun kq v3 w'=>∃ (x3_1:Int),v3 = .int .i64 x3_1∧Aside0 (spec_l6Half.l0 kq a0 x3_1=some r)∧Aside0 (kq≤k)∧Aside0 (Below w.heap.size w w'))
 case atStart => exact ⟨(1),e1_,H',⟨Nat.le_refl _⟩,⟨bw_ HB⟩⟩
 case round =>
  clear H'
  obtain ⟨x3_1,rfl,HA,HK1,HB⟩:=hrel
  cases gk with
  | zero=>exact absurd HA.out (by simp [spec_l6Half.l0])
  | succ k1 =>
   have H:=HA.out
   clear HA
   simp only [spec_l6Half.l0] at H
   replace H:=itd_ H;obtain ⟨c2b0,H⟩|⟨c2b0,H⟩:=H
   ·have H':=am_ H
    clear H
    go_wp2
    go_roundg k1
    case measure => have:=HK1.out;omega
    case rel => exact ⟨(wrap64 (2 * x3_1)),e1_,H',⟨by have:=HK1.out;omega⟩,⟨bw_ HB⟩⟩
   ·obtain rfl:=Option.some.inj H
    go_wp2
    go_ret
    exact ⟨e2_,bw_ HB⟩
mutual
def spec_PutNum.j0:Nat->Int->List Int->Option (List Int)
 | 0,_,_=>none
 | k+1,x1,x5=>if x1 < 0 then (spec_PutNum.j1 k 0 x5) else (spec_PutNum.j1 k x1 x5)
def spec_PutNum.j1:Nat->Int->List Int->Option (List Int)
 | 0,_,_=>none
 | k+1,x1,x5=>spec_PutNum.l0 k x1 x5
def spec_PutNum.l0:Nat->Int->List Int->Option (List Int)
 | 0,_,_=>none
 | k+1,x1,x5=>if x1 > 127 then (if x5.length < 140737488355328 then (spec_PutNum.l0 k (x1 / 128) (x5 ++ [(Go.bits .or .i64 (Go.bits .and .i64 x1 127) 128) % 256])) else (none)) else (if x5.length < 140737488355328 then (some (x5 ++ [(x1) % 256])) else (none))
end
def spec_PutNum.f (k:Nat) (l0:List Int) (a1:Int):Option (List Int):=(some (([]:List Int):List Int)).bind fun y601=>(if y601.length+l0.length < 140737488355328 then ((some (y601 ++ l0:List Int)).bind fun y604=>(if a1 > 1000000000 then (spec_PutNum.j0 k 1000000000 y604) else (spec_PutNum.j0 k a1 y604))) else (none))
theorem spec_PutNum.calls (k:Nat) (A0:Option Addr) (c0:Nat) (l0:List Int) (a1:Int) (r:List Int) (w:World) (hr0:Kd.C (Kd.int .u8) w A0 l0.length l0) (hc0:l0.length≤c0) (h:spec_PutNum.f k l0 a1=some r) :
  Calls Tryz.prog 168 #[.slice A0 l0.length c0,.int .i64 a1] w fun e w'=>∃ v0_:Value,e = .returned (v0_)∧Kd.R (Kd.int .u8) 5 w' w.heap.size (fun _=>True) v0_ r∧Below w.heap.size w w':=by
 have HR0:=am_ hr0
 have HC0:=am_ hc0
 clear hr0 hc0
 have HB:=h0_ w
 have H:((some (([]:List Int):List Int)).bind fun y601=>(if y601.length+l0.length < 140737488355328 then ((some (y601 ++ l0:List Int)).bind fun y604=>(if a1 > 1000000000 then (spec_PutNum.j0 k 1000000000 y604) else (spec_PutNum.j0 k a1 y604))) else (none)))=some r:=h
 clear h
 obtain ⟨y601,Ny1,H⟩:=sb_ (([]:List Int)) H
 replace H:=ip_ H;obtain ⟨c3,H⟩:=H
 have LMc3:=am_ c3
 clear c3
 obtain ⟨y604,Ny4,H⟩:=sb_ (y601 ++ l0) H
 have HC4:=am_ H
 clear H
 go_enter Tryz.func168,Tryz.ntmps168
 go_upto_if 10 with (first|((with_reducible refine gd_ 6 ?_);refine rl_ (Kd.int .u8) 5 6 ([]:List Int) [] ?_;intro v2 w5 ho6 hb hg_ hnew_;clear hg_ hnew_;(first|rw [← Ny1.out] at ho6|(simp only [Int.reduceToNat] at ho6;rw [← Ny1.out] at ho6));have HO3:=rlo_ ho6 HB;replace HB:=ss_ HB hb;clear hb ho6)|((with_reducible refine gate_builtin (b:=.append) (xs:=#[.tmp 6,.tmp 7]) rfl ?_);at_builtin;refine Kd.R_append_rows (Kd.int .u8) (w0:=w) w.heap.size rfl (.tmp 6) (.tmp 7) 27 5 (.int .u8 0) 1 rfl Tryz.underlying27 info5 rfl (by decide) (by omega) v2 y601 l0 _ _ _ (fun _=>True) (fun _=>False) rfl rfl ?aO ?aR (fun _ _ h=>h) (fun _ h=>h.elim) ?aF ?aB ?aS ?aL ?_;(case aR=>exact cb_ HR0 HB);(case aB=>exact (bw_ HB));(case aF=>exact (fun _ _=>trivial));(case aO=>exact (kr_ HO3.out));(case aS=>exact (sz_ HB));(case aL=>have:=LMc3.out;omega);intro v605 w7 ho hb hg hat;rw [← Ny4.out] at ho;replace HB:=am_ hb;have HO6:=am_ ho;clear HO3;clear ho hb hg hat))
 (try simp only [Act.put,List.setIfInBounds_toArray,List.set_cons_zero,List.set_cons_succ])
 go_cut [1] (fun v1 wc=>∃ (kq:Nat) (x1_3:Int),v1 = .int .i64 x1_3∧Aside0 (spec_PutNum.j0 kq x1_3 y604=some r)∧Aside0 (kq≤k)∧Aside0 (Kd.R (Kd.int .u8) 5 wc w.heap.size (fun _=>True) v605 y604)∧Aside0 (Below w.heap.size w wc))
 case first =>
  have H:=HC4.out
  clear HC4
  replace H:=it_ H;obtain ⟨c8,H⟩|⟨c8,H⟩:=H
  ·have c8b0:decide (1000000000 < a1)=true:=decide_eq_true c8
   clear c8
   (first | rw [c8b0]|(simp only [i64_w,i32_w];rw [c8b0])|skip)
   have H':=am_ H
   clear H
   go_wp2
   go_meet
   case rel => exact ⟨_,(1000000000),e1_,H',⟨le_⟩,⟨kr_ HO6.out⟩,⟨bw_ HB⟩⟩
  ·have c8b0:decide (1000000000 < a1)=false:=decide_eq_false c8
   clear c8
   (first | rw [c8b0]|(simp only [i64_w,i32_w];rw [c8b0])|skip)
   have H':=am_ H
   clear H
   go_wp2
   go_meet
   case rel => exact ⟨_,(a1),e1_,H',⟨le_⟩,⟨kr_ HO6.out⟩,⟨bw_ HB⟩⟩
 case rest =>
  clear HC4
  try clear c3
  obtain ⟨kq,x1_3,rfl,HA,HJ3,HO_5,HB⟩:=hcut
  cases kq with
  | zero=>exact absurd HA.out (by simp [spec_PutNum.j0])
  | succ kj3 =>
   have H:=HA.out
   clear HA
   simp only [spec_PutNum.j0] at H
   have HC9:=am_ H
   clear H
   go_upto_if 12 with (fail)
   go_cut [1] (fun v1 wc=>∃ (kq:Nat) (x1_8:Int),v1 = .int .i64 x1_8∧Aside0 (spec_PutNum.j1 kq x1_8 y604=some r)∧Aside0 (kq≤kj3)∧Aside0 (Kd.R (Kd.int .u8) 5 wc w.heap.size (fun _=>True) v605 y604)∧Aside0 (Below w.heap.size w wc))
   case first =>
    have H:=HC9.out
    clear HC9
    replace H:=itd_ H;obtain ⟨c10b0,H⟩|⟨c10b0,H⟩:=H
    ·(first | rw [c10b0]|(simp only [i64_w,i32_w];rw [c10b0])|skip)
     have H':=am_ H
     clear H
     go_wp2
     go_meet
     case rel => exact ⟨_,(0),e1_,H',⟨by have:=HJ3.out;first|omega|exact Nat.le_refl _⟩,⟨kr_ HO_5.out⟩,⟨bw_ HB⟩⟩
    ·(first | rw [c10b0]|(simp only [i64_w,i32_w];rw [c10b0])|skip)
     have H':=am_ H
     clear H
     go_wp2
     go_meet
     case rel => exact ⟨_,(x1_3),e1_,H',⟨by have:=HJ3.out;first|omega|exact Nat.le_refl _⟩,⟨kr_ HO_5.out⟩,⟨bw_ HB⟩⟩
   case rest =>
    clear HC9
    try clear c1
    try clear p2
    try clear c3
    try clear c8
    try clear c8b0
    obtain ⟨kq,x1_8,rfl,HA,HJ8,HO_5,HB⟩:=hcut
    cases kq with
    | zero=>exact absurd HA.out (by simp [spec_PutNum.j1])
    | succ kj8 =>
     have H:=HA.out
     clear HA
     simp only [spec_PutNum.j1] at H
     have H':=am_ H
     clear H
     go_wp2
     go_loopg [1,5] kj8 (fun kq v1 v5 w'=>∃ (x1_3:Int) (x5_3:List Int),v1 = .int .i64 x1_3∧Aside0 (spec_PutNum.l0 kq x1_3 x5_3=some r)∧Aside0 (kq≤kj8)∧Aside0 (Kd.R (Kd.int .u8) 5 w' w.heap.size (fun _=>True) v5 x5_3)∧Aside0 (Below w.heap.size w w'))
     case atStart => exact ⟨(x1_8),(y604),e1_,H',⟨Nat.le_refl _⟩,⟨kr_ HO_5.out⟩,⟨bw_ HB⟩⟩
     case round =>
      clear H'
      try clear c1
      try clear p2
      try clear c3
      try clear c8
      try clear c8b0
      try clear c10
      try clear c10b0
      obtain ⟨x1_3,x5_3,rfl,HA,HK3,HO_5,HB⟩:=hrel
      cases gk with
      | zero=>exact absurd HA.out (by simp [spec_PutNum.l0])
      | succ k3 =>
       have H:=HA.out
       clear HA
       simp only [spec_PutNum.l0] at H
       replace H:=it_ H;obtain ⟨c11,H⟩|⟨c11,H⟩:=H
       ·have c11b0:decide (127 < x1_3)=true:=decide_eq_true c11
        clear c11
        replace H:=ip_ H;obtain ⟨c12,H⟩:=H
        have LMc12:=am_ c12
        clear c12
        obtain ⟨y607,hy7⟩:∃ y_:List Int,y_=(x5_3 ++ [(Go.bits .or .i64 (Go.bits .and .i64 x1_3 127) 128) % 256]):=⟨_,rfl⟩
        replace H:(spec_PutNum.l0 k3 (x1_3 / 128) y607)=some r:=yh_ hy7 H
        have Ny7:=am_ hy7
        clear hy7
        have H':=am_ H
        clear H
        go_wp2_with (first|((with_reducible refine gate_builtin (b:=.append) (xs:=#[.tmp 15,.tmp 20]) rfl ?_);at_builtin;refine Kd.R_append (Kd.int .u8) (w0:=w) w.heap.size rfl (.tmp 15) (.tmp 20) 27 5 (.int .u8 0) 1 rfl Tryz.underlying27 info5 rfl (by decide) (by omega) u5 x5_3 ((Go.bits .or .i64 (Go.bits .and .i64 x1_3 127) 128) % 256) [.int .u8 ((Go.bits .or .i64 (Go.bits .and .i64 x1_3 127) 128) % 256)] (fun _=>True) (fun _=>False) rfl rfl ?aP (fun _ hk=>hk.elim) ?aF ?aO ?aB ?aS ?aL ?_;(case aP=>exact rfl);(case aB=>exact (bw_ HB));(case aF=>exact (fun _ _=>trivial));(case aO=>exact (kr_ HO_5.out));(case aS=>exact (sz_ HB));(case aL=>have:=LMc12.out;omega);intro v8 w13 ho hb hg hat;rw [← Ny7.out] at ho;replace HB:=am_ hb;have HO9:=am_ ho;clear HO_5;clear ho hb hg hat))
        go_roundg k3
        case measure => have:=HJ3.out;have:=HJ8.out;have:=HK3.out;omega
        case rel => exact ⟨(x1_3 / 128),(y607),e1_,H',⟨by have:=HJ3.out;have:=HJ8.out;have:=HK3.out;omega⟩,⟨kr_ HO9.out⟩,⟨bw_ HB⟩⟩
       ·have c11b0:decide (127 < x1_3)=false:=decide_eq_false c11
        clear c11
        replace H:=ip_ H;obtain ⟨c14,H⟩:=H
        have LMc14:=am_ c14
        clear c14
        obtain ⟨y10,hy10⟩:∃ y_:List Int,y_=(x5_3 ++ [(x1_3) % 256]):=⟨_,rfl⟩
        replace H:(some y10)=some r:=yh_ hy10 H
        have Ny10:=am_ hy10
        clear hy10
        obtain rfl:=Option.some.inj H
        go_wp2_with (first|((with_reducible refine gate_builtin (b:=.append) (xs:=#[.tmp 24,.tmp 27]) rfl ?_);at_builtin;refine Kd.R_append (Kd.int .u8) (w0:=w) w.heap.size rfl (.tmp 24) (.tmp 27) 27 5 (.int .u8 0) 1 rfl Tryz.underlying27 info5 rfl (by decide) (by omega) u5 x5_3 ((x1_3) % 256) [.int .u8 ((x1_3) % 256)] (fun _=>True) (fun _=>False) rfl rfl ?aP (fun _ hk=>hk.elim) ?aF ?aO ?aB ?aS ?aL ?_;(case aP=>exact rfl);(case aB=>exact (bw_ HB));(case aF=>exact (fun _ _=>trivial));(case aO=>exact (kr_ HO_5.out));(case aS=>exact (sz_ HB));(case aL=>have:=LMc14.out;omega);intro v11 w15 ho hb hg hat;rw [← Ny10.out] at ho;replace HB:=am_ hb;have HO12:=am_ ho;clear HO_5;clear ho hb hg hat))
        go_ret
        exact ⟨_,e2_,kr_ HO12.out,bw_ HB⟩
def impl_putNum.l0:Nat->List Int->Int->Option (List Int)
 | 0,_,_=>none
 | k+1,x0,x1=>if x1 > 127 then (if x0.length < 140737488355328 then (impl_putNum.l0 k (x0 ++ [(Go.bits .or .i64 128 (Go.bits .and .i64 x1 127)) % 256]) (x1 / 128)) else (none)) else (if x0.length < 140737488355328 then (some (x0 ++ [(x1) % 256])) else (none))
def impl_putNum.f (k:Nat) (l0:List Int) (a1:Int):Option (List Int):=impl_putNum.l0 k l0 (mx 0 (mn a1 1000000000))
theorem impl_putNum.calls (k:Nat) (P0_:Nat->Prop) (u9000_:Value) (l0:List Int) (a1:Int) (r:List Int) (w0 w:World) (hB:Below w0.heap.size w0 w) (ho0:Kd.R (Kd.int .u8) 5 w w0.heap.size P0_ u9000_ l0) (h:impl_putNum.f k l0 a1=some r) :
  Calls Tryz.prog 155 #[u9000_,.int .i64 a1] w fun e w'=>∃ v0_:Value,e = .returned (v0_)∧Kd.R (Kd.int .u8) 5 w' w0.heap.size (fun k_=>(P0_ k_∨w.heap.size≤k_)) v0_ r∧Below w0.heap.size w0 w'∧Kept w w' (fun k_=>P0_ k_):=by
 have HO0:=am_ (show Kd.R (Kd.int .u8) 5 w w0.heap.size (fun k_=>(P0_ k_∨w.heap.size≤k_)) u9000_ l0 from Kd.R_mono ho0 (fun k_ hk=>(.inl hk)))
 have HK:=am_ (Kept.refl w (fun k_=>P0_ k_))
 have HW0:=am_ hB.size
 have HB:=am_ hB
 clear hB
 have H:(impl_putNum.l0 k l0 (mx 0 (mn a1 1000000000)))=some r:=h
 clear h
 generalize hji3:(mn a1 1000000000)=ji3 at H
 (try (have hji3h:ji3≤1000000000:=by (rw [← hji3];unfold mn;(repeat' split) <;> omega)))
 (try (have hji3g:ji3≤64:=by omega))
 have hji3_:(if 1000000000 < a1 then 1000000000 else a1)=ji3:=hji3
 generalize hji4:(mx 0 (ji3))=ji4 at H
 have hji4_:(if 0 < (ji3) then (ji3) else 0)=ji4:=hji4
 have H':=am_ H
 clear H
 go_enter Tryz.func155,Tryz.ntmps155
 go_wp2
 go_loopg [0,1] k (fun kq v0 v1 w'=>∃ (x0_1:List Int) (x1_1:Int),v1 = .int .i64 x1_1∧Aside0 (impl_putNum.l0 kq x0_1 x1_1=some r)∧Aside0 (kq≤k)∧Aside0 (Kd.R (Kd.int .u8) 5 w' w0.heap.size (fun k_=>(P0_ k_∨w.heap.size≤k_)) v0 x0_1)∧Aside0 (Kept w w' (fun k_=>P0_ k_))∧Aside0 (Below w0.heap.size w0 w'))
 case atStart => exact ⟨(l0),(ji4),(by first|rfl|(simp;done)|(simp only [← hji4] <;> (first|rfl|simp))|(simp [*];done)),H',⟨Nat.le_refl _⟩,⟨kr_ HO0.out⟩,⟨kt_ HK⟩,⟨bw_ HB⟩⟩
 case round =>
  clear H'
  obtain ⟨x0_1,x1_1,rfl,HA,HK1,HO_0,HK,HB⟩:=hrel
  cases gk with
  | zero=>exact absurd HA.out (by simp [impl_putNum.l0])
  | succ k1 =>
   have H:=HA.out
   clear HA
   simp only [impl_putNum.l0] at H
   replace H:=it_ H;obtain ⟨c5,H⟩|⟨c5,H⟩:=H
   ·have c5b0:decide (127 < x1_1)=true:=decide_eq_true c5
    clear c5
    replace H:=ip_ H;obtain ⟨c6,H⟩:=H
    have LMc6:=am_ c6
    clear c6
    obtain ⟨y601,hy1⟩:∃ y_:List Int,y_=(x0_1 ++ [(Go.bits .or .i64 128 (Go.bits .and .i64 x1_1 127)) % 256]):=⟨_,rfl⟩
    replace H:(impl_putNum.l0 k1 y601 (x1_1 / 128))=some r:=yh_ hy1 H
    have Ny1:=am_ hy1
    clear hy1
    have H':=am_ H
    clear H
    go_wp2_with (first|((with_reducible refine gate_builtin (b:=.append) (xs:=#[.tmp 10,.tmp 15]) rfl ?_);at_builtin;refine Kd.R_append (Kd.int .u8) (w0:=w0) w0.heap.size rfl (.tmp 10) (.tmp 15) 27 5 (.int .u8 0) 1 rfl Tryz.underlying27 info5 rfl (by decide) (by omega) u0 x0_1 ((Go.bits .or .i64 128 (Go.bits .and .i64 x1_1 127)) % 256) [.int .u8 ((Go.bits .or .i64 128 (Go.bits .and .i64 x1_1 127)) % 256)] (fun k_=>(P0_ k_∨w.heap.size≤k_)) (fun _=>False) rfl rfl ?aP (fun _ hk=>hk.elim) ?aF ?aO ?aB ?aS ?aL ?_;(case aP=>exact rfl);(case aB=>exact (bw_ HB));(case aF=>exact (fun k_ hk=>(.inr (Nat.le_trans (by first|exact HK.out.1|exact (show Kept w _ (fun k_=>P0_ k_) from kt_ HK).1) hk))));(case aO=>exact (kr_ HO_0.out));(case aS=>exact (sz_ HB));(case aL=>have:=LMc6.out;omega);intro v2 w7 ho hb hg hat;rw [← Ny1.out] at ho;replace HB:=am_ hb;replace HK:=am_ (Kept.of_grown (S:=(fun k_=>P0_ k_)) hg (kt_ HK) (fun k_ e_=>(HO_0.out.1 k_ e_)));have HO3:=am_ ho;clear HO_0;clear ho hb hg hat))
    go_roundg k1
    case measure => have:=HK1.out;omega
    case rel => exact ⟨(y601),(x1_1 / 128),e1_,H',⟨by have:=HK1.out;omega⟩,⟨kr_ HO3.out⟩,⟨kt_ HK⟩,⟨bw_ HB⟩⟩
   ·have c5b0:decide (127 < x1_1)=false:=decide_eq_false c5
    clear c5
    replace H:=ip_ H;obtain ⟨c8,H⟩:=H
    have LMc8:=am_ c8
    clear c8
    obtain ⟨y604,hy4⟩:∃ y_:List Int,y_=(x0_1 ++ [(x1_1) % 256]):=⟨_,rfl⟩
    replace H:(some y604)=some r:=yh_ hy4 H
    have Ny4:=am_ hy4
    clear hy4
    obtain rfl:=Option.some.inj H
    go_wp2_with (first|((with_reducible refine gate_builtin (b:=.append) (xs:=#[.tmp 19,.tmp 22]) rfl ?_);at_builtin;refine Kd.R_append (Kd.int .u8) (w0:=w0) w0.heap.size rfl (.tmp 19) (.tmp 22) 27 5 (.int .u8 0) 1 rfl Tryz.underlying27 info5 rfl (by decide) (by omega) u0 x0_1 ((x1_1) % 256) [.int .u8 ((x1_1) % 256)] (fun k_=>(P0_ k_∨w.heap.size≤k_)) (fun _=>False) rfl rfl ?aP (fun _ hk=>hk.elim) ?aF ?aO ?aB ?aS ?aL ?_;(case aP=>exact rfl);(case aB=>exact (bw_ HB));(case aF=>exact (fun k_ hk=>(.inr (Nat.le_trans (by first|exact HK.out.1|exact (show Kept w _ (fun k_=>P0_ k_) from kt_ HK).1) hk))));(case aO=>exact (kr_ HO_0.out));(case aS=>exact (sz_ HB));(case aL=>have:=LMc8.out;omega);intro v5 w9 ho hb hg hat;rw [← Ny4.out] at ho;replace HB:=am_ hb;replace HK:=am_ (Kept.of_grown (S:=(fun k_=>P0_ k_)) hg (kt_ HK) (fun k_ e_=>(HO_0.out.1 k_ e_)));have HO6:=am_ ho;clear HO_0;clear ho hb hg hat))
    go_ret
    exact ⟨_,by first|rfl|(simp [errW_none,errW_some] <;> rfl)|(simp only [← hji3,← hji4];first|rfl|(simp [errW_none,errW_some] <;> rfl))|(simp [*,errW_none,errW_some] <;> rfl),kr_ HO6.out,bw_ HB,kt_ HK⟩
def spec_PutText.f (k:Nat) (l0:List Int) (a1:ByteArray):Option (List Int):=(spec_PutNum.f k l0 (a1.size:Int)).bind fun t1=>(if t1.length+a1.size < 140737488355328 then (some (t1 ++ bytesOf a1)) else (none))
theorem spec_PutText.calls (k:Nat) (A0:Option Addr) (c0:Nat) (l0:List Int) (a1:ByteArray) (r:List Int) (w:World) (hr0:Kd.C (Kd.int .u8) w A0 l0.length l0) (hc0:l0.length≤c0) (h:spec_PutText.f k l0 a1=some r) :
  Calls Tryz.prog 167 #[.slice A0 l0.length c0,.string a1] w fun e w'=>∃ v0_:Value,e = .returned (v0_)∧Kd.R (Kd.int .u8) 5 w' w.heap.size (fun _=>True) v0_ r∧Below w.heap.size w w':=by
 have HR0:=am_ hr0
 have HC0:=am_ hc0
 clear hr0 hc0
 have HB:=h0_ w
 have H:((spec_PutNum.f k l0 (a1.size:Int)).bind fun t1=>(if t1.length+a1.size < 140737488355328 then (some (t1 ++ bytesOf a1)) else (none)))=some r:=h
 clear h
 replace H:=bi_ H;obtain ⟨t1,A3,H⟩:=H
 replace H:=ip_ H;obtain ⟨c4,H⟩:=H
 have LMc4:=am_ c4
 clear c4
 obtain ⟨y604,hy4⟩:∃ y_:List Int,y_=(t1 ++ bytesOf a1):=⟨_,rfl⟩
 replace H:(some y604)=some r:=yh_ hy4 H
 have Ny4:=am_ hy4
 clear hy4
 obtain rfl:=Option.some.inj H
 go_enter Tryz.func167,Tryz.ntmps167
 go_wp2_with (first|((with_reducible refine gq_ 168 8 ?_);refine gc_ 8 Tryz.func168 (spec_PutNum.calls k _ _ l0 (a1.size:Int) t1 _ (cr_ HR0.out) HC0.out A3.out) ?_;rintro e w5 ⟨v2,rfl,ho0,hb⟩;refine ⟨_,rfl,?_⟩;have HO3:=rlo_ ho0 HB;replace HB:=ss_ HB hb;clear hb ho0)|(at_builtin;refine print_append_str (w0:=w) w.heap.size rfl (.tmp 8) _ 27 9 5 rfl Tryz.underlying27 Tryz.underlying9 info5 v2 t1 a1 rfl rfl ?aO ?aB ?aS ?aL ?_;(case aB=>exact (bw_ HB));(case aO=>exact (Kd.own_of_R (kr_ HO3.out)));(case aS=>exact (sz_ HB));(case aL=>have:=LMc4.out;omega);intro v5 w6 ho0 hb hg;have ho:=Kd.R_of_own (h1:=fun _=>rfl) (ok:=fun _=>True) ho0 (fun _ _=>trivial);clear ho0;have hat:=True.intro;rw [← Ny4.out] at ho;change Kd.R (Kd.int .u8) 5 w6 w.heap.size (fun _=>True) v5 y604 at ho;replace HB:=am_ hb;have HO6:=am_ ho;clear HO3;clear ho hb hg hat))
 go_ret
 exact ⟨_,e2_,kr_ HO6.out,bw_ HB⟩
def impl_putText.f (k:Nat) (l0:List Int) (a1:ByteArray):Option (List Int):=(impl_putNum.f k l0 (a1.size:Int)).bind fun t1=>(if t1.length+a1.size < 140737488355328 then (some (t1 ++ bytesOf a1)) else (none))
theorem impl_putText.calls (k:Nat) (P0_:Nat->Prop) (u9000_:Value) (l0:List Int) (a1:ByteArray) (r:List Int) (w0 w:World) (hB:Below w0.heap.size w0 w) (ho0:Kd.R (Kd.int .u8) 5 w w0.heap.size P0_ u9000_ l0) (h:impl_putText.f k l0 a1=some r) :
  Calls Tryz.prog 154 #[u9000_,.string a1] w fun e w'=>∃ v0_:Value,e = .returned (v0_)∧Kd.R (Kd.int .u8) 5 w' w0.heap.size (fun k_=>(P0_ k_∨w.heap.size≤k_)) v0_ r∧Below w0.heap.size w0 w'∧Kept w w' (fun k_=>P0_ k_):=by
 have HO0:=am_ (show Kd.R (Kd.int .u8) 5 w w0.heap.size (fun k_=>(P0_ k_∨w.heap.size≤k_)) u9000_ l0 from Kd.R_mono ho0 (fun k_ hk=>(.inl hk)))
 have HK:=am_ (Kept.refl w (fun k_=>P0_ k_))
 have HW0:=am_ hB.size
 have HB:=am_ hB
 clear hB
 have H:((impl_putNum.f k l0 (a1.size:Int)).bind fun t1=>(if t1.length+a1.size < 140737488355328 then (some (t1 ++ bytesOf a1)) else (none)))=some r:=h
 clear h
 replace H:=bi_ H;obtain ⟨t1,A3,H⟩:=H
 replace H:=ip_ H;obtain ⟨c4,H⟩:=H
 have LMc4:=am_ c4
 clear c4
 obtain ⟨y604,hy4⟩:∃ y_:List Int,y_=(t1 ++ bytesOf a1):=⟨_,rfl⟩
 replace H:(some y604)=some r:=yh_ hy4 H
 have Ny4:=am_ hy4
 clear hy4
 obtain rfl:=Option.some.inj H
 obtain ⟨Ao5,co5,eo5⟩:=Kd.R_slice HO0.out
 subst eo5
 go_enter Tryz.func154,Tryz.ntmps154
 go_wp2_with (first|((with_reducible refine gq_ 155 8 ?_);refine gc_ 8 Tryz.func155 (impl_putNum.calls k (fun k_=>some k_=(.slice Ao5 l0.length co5:Value).ownBlock) (.slice Ao5 l0.length co5) l0 (a1.size:Int) t1 w0 _ (bw_ HB) (Kd.R_tight rfl HO0.out) A3.out) ?_;rintro e w6 ⟨v2,rfl,ho0,hb,hkp⟩;refine ⟨_,rfl,?_⟩;have HO3:=am_ (Kd.R_mono (ok':=fun k_=>(P0_ k_∨w.heap.size≤k_)) ho0 (fun k_ hk_=>Or.elim hk_ (fun hs_=>(HO0.out.1 k_ (hs_).symm)) (fun hn_=>(.inr (Nat.le_trans (by first|exact HK.out.1|exact (show Kept w _ (fun k_=>P0_ k_) from kt_ HK).1) hn_)))));replace HK:=am_ (Kept.then_ (S:=(fun k_=>P0_ k_)) (kt_ HK) hkp (fun k_ hs_=>(fun e_=>(HO0.out.1 k_ e_.symm)) hs_));replace HB:=am_ hb;clear HO0;clear hb hkp ho0)|(at_builtin;refine print_append_strR (w0:=w0) w0.heap.size rfl (.tmp 8) _ 27 9 5 rfl Tryz.underlying27 Tryz.underlying9 info5 v2 t1 a1 (fun k_=>(P0_ k_∨w.heap.size≤k_)) rfl rfl ?aF ?aO ?aB ?aS ?aL ?_;(case aB=>exact (bw_ HB));(case aF=>exact (fun k_ hk=>(.inr (Nat.le_trans (by first|exact HK.out.1|exact (show Kept w _ (fun k_=>P0_ k_) from kt_ HK).1) hk))));(case aO=>exact (kr_ HO3.out));(case aS=>exact (sz_ HB));(case aL=>have:=LMc4.out;omega);intro v5 w7 ho hb hg hat;rw [← Ny4.out] at ho;replace HB:=am_ hb;replace HK:=am_ (Kept.of_grown (S:=(fun k_=>P0_ k_)) hg (kt_ HK) (fun k_ e_=>(HO3.out.1 k_ e_)));have HO6:=am_ ho;clear HO3;clear ho hb hg hat))
 go_ret
 exact ⟨_,e2_,kr_ HO6.out,bw_ HB,kt_ HK⟩
end Go.Proofs.YtnlndmoecljicaaGreat.Q
end
