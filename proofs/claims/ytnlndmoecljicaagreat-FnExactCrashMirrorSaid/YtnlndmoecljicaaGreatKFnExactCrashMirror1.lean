-- Joined and shortened by a program of this session (wip/tools/shakecopy.py): the words of the print,texts of pp.sh and of mine.
import Derived.Test.YtnlndmoecljicaaGreatKFnExactCrashMirror0
import Derived.Deep.Slices
import Derived.ChangeArms
import Derived.Lib.AppendStr
import Derived.Lib.Strings
import Derived.Test.YtnlndmoecljicaaGreatProg
import Derived.Below
import Derived.Deep.Draws
import Derived.Deep.AppendLies
import Derived.Maps.AppendAt
import Derived.OwnWalk
import Derived.Laws.BytesArg
import Derived.Laws.MakeOwn
import Derived.Laws.OwnMore
import Derived.Deep.OwnRows
import Derived.Tactics
import Derived.Lib.ConvBytes
import Derived.Laws.Slices
import Derived.WalkKit
import Derived.KernelRfl
import Derived.RowKit3
import Derived.Deep.LoopGhost
import Derived.Deep.QuietTactic
import Derived.BigQuiet
import Derived.WideLaws
import Derived.Deep.DeepCutAuto
import Derived.Deep.CutBlock
import Derived.Deep.RegionHeld3
import Derived.Laws.Rows
import Derived.ArgAppend
import Derived.Laws.IdiomCopy
import Derived.OrdersHeld
import Derived.Laws.BitsLemmas
import Derived.RowKit
import Derived.RegionTactic
import Derived.IntWalk
set_option linter.unusedVariables false
set_option linter.unusedSimpArgs false
section
namespace Go.Proofs.YtnlndmoecljicaaGreat.XO
open Go.ChangeShapes Go.Proofs.YtnlndmoecljicaaGreatW.PrintWords Go.RowKit Go.WideShapes
section
def Opens {α:Type} (P:Program) (d:Kd α) (t:TypeId) (G:α->Prop):Prop :=
 ∀ {H:Type} {enc:TypeId × Value->H} {w:World} {base:Nat} {spare:Nat->Bool} {held:Bool} {fuel:Nat} {cs:List Value} {x:DataW H × List MemPlace},
  DataW.trod enc P w base spare held fuel t cs=some x->∃ a:α,d.K w a cs∧G a
variable {P:Program} {t:TypeId}
theorem add_add (a:Addr) (x i:Nat):(a.add x).add i=a.add (x+i):=by
 unfold Addr.add
 by_cases hx:x=0
 ·subst hx
  simp
 ·by_cases hi:i=0
  ·subst hi
   simp
  ·simp [hx,hi,Nat.add_assoc]
theorem cells_read {w:World} {base:Nat} {a:Addr} {x n:Nat} {cs:List Value} (h:w.cells? base (a.add x) n=some cs) (i:Nat) (u:Value) (hu:cs[i]?=some u):w.cell? (a.add (x+i))=some u:=by
 unfold World.cells? at h
 split at h
 ·have hl:cs.length=n:=by simpa using mapM_some_length h
  have hi:i < n:=by
   rw [← hl]
   exact (List.getElem?_eq_some_iff.1 hu).1
  have hg:=mapM_some_get h i i (by simp [hi])
  rw [hu,add_add] at hg
  exact hg
 ·exact absurd h (by simp)
theorem family {α:Type} {p:Nat->α->Prop} (n:Nat) (h:∀ i,i < n->∃ x,p i x):∃ xs:List α,xs.length=n∧∀ i x,xs[i]?=some x->p i x:=by
 induction n with
 | zero=>exact ⟨[],rfl,fun i x hx=>by simp at hx⟩
 | succ n ih =>
  obtain ⟨xs,h1,h2⟩:=ih (fun i hi=>h i (by omega))
  obtain ⟨y,hy⟩:=h n (by omega)
  refine ⟨xs ++ [y],by simp [h1],fun i x hx=>?_⟩
  by_cases hi:i < xs.length
  ·rw [List.getElem?_append_left hi] at hx
   exact h2 i x hx
  ·rw [List.getElem?_append_right (by omega)] at hx
   have hz:i - xs.length=0:=by
    rcases Nat.eq_zero_or_pos (i - xs.length) with hz|hz
    ·exact hz
    ·rw [List.getElem?_eq_none (by simp;omega)] at hx
     exact absurd hx (by simp)
   rw [hz] at hx
   have hxy:y=x:=by simpa using hx
   have hin:i=n:=by omega
   rw [← hxy,hin]
   exact hy
theorem opens_int {k:IntKind} (ht:P.underlying t=some (.int k)):Opens P (Kd.int k) t (fun n=>(Lit.int k n).wf=true):=by
 intro H enc w base spare held fuel cs x h
 obtain ⟨n,rfl,_,hw⟩:=DataW.trod_int ht h
 exact ⟨n,rfl,hw⟩
theorem opens_string (ht:P.underlying t=some .string):Opens P Kd.string t (fun s=>s.size≤9223372036854775807):=by
 intro H enc w base spare held fuel cs x h
 obtain ⟨s,rfl,_,hs⟩:=DataW.trod_string ht h
 exact ⟨s,rfl,by simpa [maxLen] using hs⟩
theorem opens_slice {α:Type} {d:Kd α} {G:α->Prop} {e:TypeId} (ht:P.underlying t=some (.slice e)) (hc:P.cellsOf e=d.sz) (h0:Opens P d e G) :
  Opens P (Kd.slice e d) t (fun l=>l.length≤9223372036854775807∧∀ x ∈ l,G x):=by
 intro H enc w base spare held fuel cs x h
 rcases Go.Deep.open_slice ht h with ⟨rfl,_⟩|⟨a,len,cap,m,n,D,Pl,rfl,_,hl,hm,hmm,_,hel⟩
 ·exact ⟨[],⟨none,0,rfl,Nat.le_refl _,rfl,by simp,fun hp=>absurd hp (by simp)⟩,by simp,fun x hx=>absurd hx (by simp)⟩
 ·have hlm:len≤m:=by
   rw [hmm]
   split
   ·exact hl
   ·exact Nat.le_refl _
  have hall:∀ i,i < len->∃ x:α,(∃ cs',w.cells? base (a.add (i * P.cellsOf e)) (P.cellsOf e)=some cs'∧d.K w x cs')∧G x:=by
   intro i hi
   obtain ⟨cs',h1,h2⟩:=hel i (by omega)
   obtain ⟨x,hk,hg⟩:=h0 h2
   exact ⟨x,⟨cs',h1,hk⟩,hg⟩
  have hlen:len≤9223372036854775807:=by simp only [maxLen] at hm;omega
  obtain ⟨xs,h1,h2⟩:=family len hall
  refine ⟨xs,⟨some a,cap,by rw [h1],by omega,rfl,by omega,fun _=>⟨a,rfl,fun j p hj=>?_⟩⟩,by omega,fun x hx=>?_⟩
  ·obtain ⟨⟨cs',hc1,hk⟩,_⟩:=h2 j p hj
   refine ⟨cs',d.K_len hk,hk,fun i u hu=>?_⟩
   rw [hc] at hc1
   exact cells_read hc1 i u hu
  ·obtain ⟨i,hi⟩:=List.getElem?_of_mem hx
   exact (h2 i x hi).2
theorem cut_cells {cs:List Value} {o n total:Nat} (hl:cs.length=total) (ho:o+n=total):(cs.drop o).take n=cs.drop o:=by
 apply List.take_of_length_le
 simp
 omega
theorem part_cells (cs:List Value) (o n:Nat):cs.drop o=(cs.drop o).take n ++ cs.drop (o+n):=by
 rw [← List.drop_drop,List.take_append_drop]
theorem get_cells {β:Type} {xs:List β} {n:Nat} (h:xs.length=n) (i:Nat) (hi:i < n):∃ y,xs[i]?=some y:=⟨xs[i],List.getElem?_eq_getElem (by omega)⟩
end
end Go.Proofs.YtnlndmoecljicaaGreat.XO
end
section
namespace Go.Proofs.YtnlndmoecljicaaGreatW.PrintMore
open Go Go.Lib Go.Proofs.YtnlndmoecljicaaGreatW.PrintWords Go.RowKit
theorem append_str_hat {P:Program} (w:World) (base:Nat) (t u ty e:TypeId) (i:TypeInfo) (ht:P.underlying t=some (.slice e)) (hu:P.underlying u=some .string) (hi:P.info? e=some i) (hz:i.zero=some (.int .u8 0))
  (hsize:i.size=1) (hby:i.bytes=1) (v:Value) (n:Nat) (xs:List Value) (hown:w.ownsRow base e 1 v n xs) (s:ByteArray) (hbytes:n+s.size≤140737488355328) {v':Value} {w':World}
  (hr:(Builtin.append_ #[t,u] ty #[v,.string s]).run P w = .ok v' w'):v'.ownBlock=v.ownBlock∨∃ b,v'.ownBlock=some b∧w.heap.size≤b:=by
 have hxl:xs.length=n:=by simpa using hown.1
 rcases hown.2 with ⟨rfl,rfl⟩|⟨g,cap,cur,rfl,hbg,hg,hnc,hcm,hcs,htake⟩
 ·by_cases hm:s.size=0
  ·have hf:=Lib.run_firstCells_string (P:=P) w 1 s
   rw [hm] at hf
   simp [Builtin.append_,run_underlying ht,run_underlying hu,sizeOf,typeInfo,hi,hsize,Builtin.lenOf,hm,hf] at hr
   left
   rw [← hr.1]
  ·have h2:=run_append_nil_string (P:=P) w t u ty e i (.int .u8 0) ht hu hi hz s (by omega) (by omega) (by rw [hby];omega)
   rw [h2] at hr
   cases hr
   exact .inr ⟨w.heap.size,rfl,Nat.le_refl _⟩
 ·by_cases hroom:n+s.size≤cap
  ·have h2:=Lib.run_append_room_string (P:=P) w t u ty e i ht hu hi hsize g n cap cur hg s hroom (by omega)
   rw [h2] at hr
   cases hr
   exact .inl rfl
  ·have holds:∀ j u,xs[j]?=some u->w.cell? ((⟨g,0,none⟩:Addr).add j)=some u:=hown.cells (g:=g) rfl
   have h2:=Lib.run_append_grow_string (P:=P) w t u ty e i (.int .u8 0) ht hu hi hz ⟨g,0,none⟩ n cap xs (by rw [hsize];simpa using hxl) holds s (by omega) (by omega) (by rw [hby];exact growslice_fits (by omega) (by omega))
   rw [h2] at hr
   cases hr
   exact .inr ⟨w.heap.size,rfl,Nat.le_refl _⟩
section
variable {P:Program} {ops:Array Oper} {rest:List Oper} {o:Oper} {a:Act} {Q:Exit->Act->World->Prop}
theorem print_append_strR {w0 W:World} (base:Nat) (hgd:o.guard=none) (s x:Operand) (t u e:TypeId)
  (ho:o.op = .call { callee:=.builtin .append,args:=#[s,x],argTypes:=#[t,u] })
  (ht:P.underlying t=some (.slice e)) (hu:P.underlying u=some .string) (hinfo:(P.info? e).map (fun i=>(i.zero,i.size,i.bytes))=some (some (.int .u8 0),1,1))
  (v:Value) (xs:List Int) (y:ByteArray) (ok:Nat->Prop) (hs:a.eval s=v) (hx:a.eval x = .string y) (hfresh:∀ k,W.heap.size≤k->ok k)
  (HO:Kd.R (Kd.int .u8) e W base ok v xs) (HB:Below base w0 W) (hbase:base≤W.heap.size) (hl:xs.length+y.size≤140737488355328)
  (h:∀ v1 w1,Kd.R (Kd.int .u8) e w1 base ok v1 (xs ++ bytesOf y)->Below base w0 w1->W.grownBy w1 v.ownBlock->(v1.ownBlock=v.ownBlock∨∃ b,v1.ownBlock=some b∧W.heap.size≤b)->wpList P ops Q rest (a.put o.dst v1) w1) :
  wpList P ops Q (o :: rest) a W:=by
 obtain ⟨i0,hi,hzz⟩:=Option.map_eq_some_iff.1 hinfo
 simp only [Prod.mk.injEq] at hzz
 obtain ⟨hz0,hz1,hz2⟩:=hzz
 have hO:=Kd.own_of_R HO
 refine wpList_plain hgd fun K hK=>?_
 obtain ⟨v',w',hr,h2,h3,h4⟩:=Lib.run_append_own_string (P:=P) W base t u o.type e i0 ht hu hi hz0 hz1 hz2 v xs.length _ hO y (by simp only [maxLen];omega) hl hbase
 have hat:=append_str_hat W base t u o.type e i0 ht hu hi hz0 hz1 hz2 v xs.length _ hO y hl hr
 have hl2:(xs ++ bytesOf y).length=xs.length+y.size:=by rw [List.length_append,bytesOf_length]
 have hc:nums .u8 (xs ++ bytesOf y)=nums .u8 xs ++ Lib.strCells y:=by
  rw [nums_append]
  congr 1
  simp [nums,bytesOf,Lib.strCells]
 have hR:w'.ownsRow base e 1 v' (xs ++ bytesOf y).length (nums .u8 (xs ++ bytesOf y)):=by
  rw [hl2,hc]
  exact h2
 have hB:Below base w0 w':=HB.grown h3 hbase (own_base hO)
 unfold Oper.wp execOp
 simp only [ho,resolve,invoke,builtin,Sem.run_bind,Sem.run_pure,Result.andThen_ok,List.map_toArray,List.map_cons,List.map_nil,hs,hx,hr]
 refine hK _ _ (h v' w' (Kd.R_of_own hR (fun k hk=>?_)) hB h3 hat)
 rcases hat with ha|⟨b,ha,hb⟩
 ·exact HO.1 k (by rw [← ha];exact hk)
 ·rw [ha] at hk
  cases hk
  exact hfresh _ hb
end
end Go.Proofs.YtnlndmoecljicaaGreatW.PrintMore
end
section
namespace Go.Proofs.YtnlndmoecljicaaGreat.B
open Go.Proofs.YtnlndmoecljicaaGreatW.PrintLast Go.Proofs.YtnlndmoecljicaaGreatW.PrintMore Go.Proofs.YtnlndmoecljicaaGreatW.PrintWords Go.RowKit
theorem w64 {x:Int} (h0:-9223372036854775808≤x) (h1:x≤9223372036854775807):wrap64 x=x:=by
 unfold wrap64
 omega
theorem Ev.pos {α:Type} {c:Prop} [Decidable c] {g f:Nat->Option α} {r:α} (h:c) (k:Ev g r):Ev (fun n=>if c then g n else f n) r:=Ev.congr (fun _=>if_pos h) k
theorem Ev.neg {α:Type} {c:Prop} [Decidable c] {g f:Nat->Option α} {r:α} (h:¬ c) (k:Ev f r):Ev (fun n=>if c then g n else f n) r:=Ev.congr (fun _=>if_neg h) k
theorem Ev.const {α:Type} {a:Option α} {r:α} (h:a=some r):Ev (fun _=>a) r:=⟨0,fun _ _=>h⟩
theorem Ev.one {α:Type} {g:Nat->Option α} {a r:α} (h:Ev g a) (e:a=r):Ev g r:=e ▸ h
theorem rdOf_at {α:Type} {d:α} {l:List α} {i:Nat} {x:α} (h:l[i]?=some x):rdOf d l (i:Int)=x:=by
 unfold rdOf
 simp [List.getD_eq_getElem?_getD,h]
theorem rd_at {l:List Int} {i:Nat} {x:Int} (h:l[i]?=some x):rd l (i:Int)=x:=by
 unfold rd
 simp [List.getD_eq_getElem?_getD,h]
theorem bytes_ext {a b:ByteArray} (h:a.toList=b.toList):a=b:=by
 have hd:∀ c:ByteArray,c.toList=c.data.toList:=fun c=>Go.Lib.toList_data c
 rw [hd,hd] at h
 cases a
 cases b
 simpa [Array.toList_inj] using h
theorem take_one {α:Type} {l:List α} {i:Nat} {x:α} (h:l[i]?=some x):l.take (i+1)=l.take i ++ [x]:=by
 obtain ⟨hi,he⟩:=List.getElem?_eq_some_iff.1 h
 rw [List.take_succ_eq_append_getElem hi,he]
theorem drop_one {α:Type} {l:List α} {i:Nat} {x:α} (h:l[i]?=some x):l.drop i=x :: l.drop (i+1):=by
 obtain ⟨hi,he⟩:=List.getElem?_eq_some_iff.1 h
 rw [List.drop_eq_getElem_cons hi,he]
theorem set_take {α:Type} {l:List α} {i:Nat} (x:α) (hi:i < l.length):(l.set i x).take (i+1)=l.take i ++ [x]:=by
 rw [List.take_succ_eq_append_getElem (by simpa using hi)]
 simp [List.take_set_of_le]
theorem get_some {α:Type} {l:List α} {i:Nat} (hi:i < l.length):∃ x,l[i]?=some x:=⟨l[i],List.getElem?_eq_getElem hi⟩
def total (l:List ByteArray):Int:=(l.map fun s=>(s.size:Int)).sum
theorem total_nonneg (l:List ByteArray):0≤total l:=by
 unfold total
 induction l with
 | nil=>simp
 | cons a l ih =>
  simp only [List.map_cons,List.sum_cons]
  omega
theorem total_cons (a:ByteArray) (l:List ByteArray):total (a :: l)=a.size+total l:=by simp [total]
theorem total_mem {l:List ByteArray} {s:ByteArray} (h:s ∈ l):(s.size:Int)≤total l:=by
 induction l with
 | nil=>simp at h
 | cons a l ih =>
  rw [total_cons]
  have:=total_nonneg l
  rcases List.mem_cons.1 h with rfl|h
  ·omega
  ·have:=ih h
   omega
end Go.Proofs.YtnlndmoecljicaaGreat.B
end
section
namespace Go.Proofs.YtnlndmoecljicaaGreat
open Go.Proofs.YtnlndmoecljicaaGreatW.PrintLast Go.Proofs.YtnlndmoecljicaaGreatW.PrintMore Go.Proofs.YtnlndmoecljicaaGreatW.PrintWords Go.RowKit
theorem bw_ {w w1 w2:World} (h:Aside0 (Below w.heap.size w w1)) (g:Below w.heap.size w w1->Below w.heap.size w w2:=by intro h_;repeat (first|(with_reducible first|exact h_|apply below_alloc|apply pw_below_drewN|apply below_drew1|refine below_set ?_ (Aside0.out (by assumption)))|exact h_)):Below w.heap.size w w2:=g h.out
theorem bs1_ {w w1 w2:World} {g1:Nat} (h:Aside0 (Below w.heap.size w w1)) (e1:w.heap.size≤g1) (g:Below w.heap.size w w1->w.heap.size≤g1->Below w.heap.size w w2:=by intro h_ e1_;repeat (first|(with_reducible first|exact h_|apply below_alloc|apply pw_below_drewN|apply below_drew1|refine below_set ?_ e1_)|exact h_)):Below w.heap.size w w2:=g h.out e1
theorem bs2_ {w w1 w2:World} {g1 g2:Nat} (h:Aside0 (Below w.heap.size w w1)) (e1:w.heap.size≤g1) (e2:w.heap.size≤g2) (g:Below w.heap.size w w1->w.heap.size≤g1->w.heap.size≤g2->Below w.heap.size w w2:=by intro h_ e1_ e2_;repeat (first|(with_reducible first|exact h_|apply below_alloc|apply pw_below_drewN|apply below_drew1|refine below_set ?_ e1_|refine below_set ?_ e2_)|exact h_)):Below w.heap.size w w2:=g h.out e1 e2
theorem bs3_ {w w1 w2:World} {g1 g2 g3:Nat} (h:Aside0 (Below w.heap.size w w1)) (e1:w.heap.size≤g1) (e2:w.heap.size≤g2) (e3:w.heap.size≤g3) (g:Below w.heap.size w w1->w.heap.size≤g1->w.heap.size≤g2->w.heap.size≤g3->Below w.heap.size w w2:=by intro h_ e1_ e2_ e3_;repeat (first|(with_reducible first|exact h_|apply below_alloc|apply pw_below_drewN|apply below_drew1|refine below_set ?_ e1_|refine below_set ?_ e2_|refine below_set ?_ e3_)|exact h_)):Below w.heap.size w w2:=g h.out e1 e2 e3
theorem kr_ {α:Type} {d:Kd α} {e:Nat} {w w':World} {b:Nat} {ok:Nat->Prop} {v:Value} {xs:List α} (h:d.R e w b ok v xs) (g:d.R e w b ok v xs->d.R e w' b ok v xs:=by intro h_;(with_reducible repeat (first|apply Kd.R_alloc|apply Kd.R_drewN|apply Kd.R_drew));exact h_):d.R e w' b ok v xs:=g h
theorem cr_ {α:Type} {d:Kd α} {w w':World} {A:Option Addr} {n:Nat} {xs:List α} (h:d.C w A n xs) (g:d.C w A n xs->d.C w' A n xs:=by intro h_;repeat (first|exact h_|(with_reducible refine Kd.C_alloc ?_ _)|(with_reducible refine Kd.C_drewN ?_ _)|(with_reducible refine Kd.C_drew ?_))):d.C w' A n xs:=g h
theorem kb_ {w w':World} {g:Nat} {o:Obj} (h:w.heap[g]?=some o) (f:w.heap[g]?=some o->w'.heap[g]?=some o:=by intro h_;(with_reducible repeat (first|refine blk_drewN ?_ _|refine blk_drew ?_|refine blk_alloc ?_ _));exact h_):w'.heap[g]?=some o:=f h
section
variable {P:Program} {ops:Array Oper} {rest:List Oper} {o:Oper} {a:Act} {Q:Exit->Act->World->Prop} {W:World}
theorem gk_ (f:FuncId) {az:Array Operand} {ts:Array TypeId} (h:wpList P ops Q (o :: rest) a W) (_ho:o.op = .call { callee:=.value (.func f),args:=az,argTypes:=ts }:=by exact rfl):wpList P ops Q (o :: rest) a W:=h
theorem gl_ (N:Tmp) {f:FuncId} {fn:Func} {az:Array Operand} {ts:Array TypeId} (hf:P.funcs[f]?=some fn) (args:Array Value)
 (h:Calls P f args W fun e w'=>∃ v,e = .returned v∧wpList P ops Q rest (a.put (some N) v) w')
 (hd:o.dst=some N:=by exact rfl) (hg:o.guard=none:=by exact rfl) (hname:(fn.name == "runtime.NumGoroutine")=false:=by kernel_rfl) (hb:fn.body.isSome=true:=by exact rfl)
 (hop:o.op = .call { callee:=.value (.func f),args:=az,argTypes:=ts }:=by exact rfl)
 (hargs:az.map a.eval=args:=by (try simp only [List.map_toArray,List.map_cons,List.map_nil]);first|done|rfl|(simp only [List.length_drop,List.length_take];rfl)):wpList P ops Q (o :: rest) a W:=goesL_ (some N) hd hg hf hname hb args hop hargs h
theorem gm_ {x y:Int} (hx:x=y) (N:Tmp) {f:FuncId} {fn:Func} {az:Array Operand} {ts:Array TypeId} (hf:P.funcs[f]?=some fn) (args:Array Value)
 (h:Calls P f args W fun e w'=>∃ v,e = .returned v∧wpList P ops Q rest (a.put (some N) v) w')
 (hd:o.dst=some N:=by exact rfl) (hg:o.guard=none:=by exact rfl) (hname:(fn.name == "runtime.NumGoroutine")=false:=by kernel_rfl) (hb:fn.body.isSome=true:=by exact rfl)
 (hop:o.op = .call { callee:=.value (.func f),args:=az,argTypes:=ts }:=by exact rfl)
 (hargs:x=y->az.map a.eval=args:=by intro hx_;(try simp only [List.map_toArray,List.map_cons,List.map_nil]);first|done|(simp only [hx_];rfl)|rfl|(simp only [List.length_drop,List.length_take];rfl)):wpList P ops Q (o :: rest) a W:=goesL_ (some N) hd hg hf hname hb args hop (hargs hx) h
end
section
variable {P:Program} {ops:Array Oper} {rest:List Oper} {o:Oper} {a:Act} {Q:Exit->Act->World->Prop} {α:Type}
theorem rl_ (d:Kd α) (e:Nat) (N:Tmp) (xs:List α) (inner:List Value) {W:World}
 (h:∀ v1 w1,d.R e w1 W.heap.size (fun _=>True) v1 xs->Below W.heap.size W w1->W.grownBy w1 none->(∃ b,v1.ownBlock=some b∧W.heap.size≤b)->wpList P ops Q rest (a.put o.dst v1) w1)
 (hd:o.dst=some N:=by exact rfl) (hg:o.guard=none:=by exact rfl)
 (hr:(execOp a.eval o).run P W = .ok (.value (.slice (some ⟨W.heap.size,0,none⟩) xs.length xs.length)) (W.alloc (.cells inner.toArray e)):=by first|(go_simp;done)|(go_simp;rfl))
 (hp:Reps (d.M W W.heap.size (fun _=>True)) d.sz xs inner:=by repeat (first|exact Reps.none _ _|refine Reps.one (show Kd.M _ _ _ _ _ _ from rfl) ?_)) (hm:xs.length≤9223372036854775807:=by simp):wpList P ops Q (o :: rest) a W :=
 Kd.R_lit d W.heap.size e hg hd hr hp (fun _ hk=>hk) trivial (Below.refl _ _) (Nat.le_refl _) hm h
end
section
variable {P:Program} {ops:Array Oper} {Q:Exit->Act->World->Prop} {md:Region.Mode} {S:World->Prop} {ds:List Nat} {oi:Oper} {v:Value} {fuel:Nat} {l:Array Bool} {a a':Act} {w:World} {T:Bool × List (List Nat × List Nat)} {B:List Nat}
def lz_ (n m:Nat):Array Bool:=((List.range n).map fun i=>Nat.testBit m i).toArray
theorem pt_ (i:Nat) (N:Tmp) {n:Nat} {m0:Nat} (m:Nat) (h:wpAnyLast P md ops Q S ds fuel (lz_ n m) a' w)
 (hi:ops[i]?=some oi:=by exact rfl) (hN:oi.dst=some N:=by exact rfl) (hc:anyB md ops (lz_ n m0) (lz_ n m) i=true:=by exact any_of HT_.out (by kernel_rfl)) (hQ:∀ c a w,Q (.panic c) (a.put oi.dst v) w->Q (.panic c) a w:=by exact fun _ _ _ h=>h)
 (hy:Yields P ops oi v a:=by exact Or.inl ⟨by rfl,by intro w';go_simp;with_reducible rfl⟩) (ha:a.put (some N) v=a':=by simp only [Act.put,List.setIfInBounds_toArray,List.set_cons_zero,List.set_cons_succ,i64_w,i32_w];rfl):wpAnyLast P md ops Q S ds (fuel+1) (lz_ n m0) a w:=pure_ _ hi hN hc hQ hy ha h
theorem pts_ (i:Nat) (N:Tmp) {n:Nat} {m0:Nat} (m:Nat) (h:wpAnyLast P md ops Q S ds fuel (lz_ n m) a' w)
 (hi:ops[i]?=some oi:=by exact rfl) (hN:oi.dst=some N:=by exact rfl) (hc:anyB md ops (lz_ n m0) (lz_ n m) i=true:=by exact any_of HT_.out (by kernel_rfl)) (hQ:∀ c a w,Q (.panic c) (a.put oi.dst v) w->Q (.panic c) a w:=by exact fun _ _ _ h=>h)
 (hy:Yields P ops oi v a:=by exact Or.inl ⟨by rfl,by intro w';go_simp;with_reducible rfl⟩) (ha:a.put (some N) v=a':=by simp only [Act.put,sT,sZ,sS,i64_w,i32_w];rfl):wpAnyLast P md ops Q S ds (fuel+1) (lz_ n m0) a w:=pure_ _ hi hN hc hQ hy ha h
theorem pk_ (i:Nat) (N:Tmp) {n:Nat} {m0:Nat} (m:Nat) (h:wpAnyLast P md ops Q S ds fuel (lz_ n m) a' w)
 (hi:ops[i]?=some oi:=by exact rfl) (hN:oi.dst=some N:=by exact rfl) (hc:anyB md ops (lz_ n m0) (lz_ n m) i=true:=by kernel_rfl) (hQ:∀ c a w,Q (.panic c) (a.put oi.dst v) w->Q (.panic c) a w:=by exact fun _ _ _ h=>h)
 (hy:Yields P ops oi v a:=by exact Or.inl ⟨by rfl,by intro w';go_simp;with_reducible rfl⟩) (ha:a.put (some N) v=a':=by simp only [Act.put,List.setIfInBounds_toArray,List.set_cons_zero,List.set_cons_succ,i64_w,i32_w];rfl):wpAnyLast P md ops Q S ds (fuel+1) (lz_ n m0) a w:=pure_ _ hi hN hc hQ hy ha h
theorem ut_ (i:Nat) (N:Tmp) {n:Nat} {m0:Nat} (m:Nat) (h:wpAnyLast P md ops Q S ds fuel (lz_ n m) a' w)
 (hi:ops[i]?=some oi:=by exact rfl) (hN:oi.dst=some N:=by exact rfl) (hc:anyB md ops (lz_ n m0) (lz_ n m) i=true:=by exact any_of HT_.out (by kernel_rfl)) (hQ:∀ c a w,Q (.panic c) (a.put oi.dst undef) w->Q (.panic c) a w:=by exact fun _ _ _ h=>h)
 (hy:Yields P ops oi undef a:=by exact Or.inr ⟨by rfl,rfl⟩) (ha:a.put (some N) undef=a':=by simp only [Act.put,List.setIfInBounds_toArray,List.set_cons_zero,List.set_cons_succ,i64_w,i32_w];rfl):wpAnyLast P md ops Q S ds (fuel+1) (lz_ n m0) a w:=pure_ _ hi hN hc hQ hy ha h
theorem uts_ (i:Nat) (N:Tmp) {n:Nat} {m0:Nat} (m:Nat) (h:wpAnyLast P md ops Q S ds fuel (lz_ n m) a' w)
 (hi:ops[i]?=some oi:=by exact rfl) (hN:oi.dst=some N:=by exact rfl) (hc:anyB md ops (lz_ n m0) (lz_ n m) i=true:=by exact any_of HT_.out (by kernel_rfl)) (hQ:∀ c a w,Q (.panic c) (a.put oi.dst undef) w->Q (.panic c) a w:=by exact fun _ _ _ h=>h)
 (hy:Yields P ops oi undef a:=by exact Or.inr ⟨by rfl,rfl⟩) (ha:a.put (some N) undef=a':=by simp only [Act.put,sT,sZ,sS,i64_w,i32_w];rfl):wpAnyLast P md ops Q S ds (fuel+1) (lz_ n m0) a w:=pure_ _ hi hN hc hQ hy ha h
theorem tt_ (i:Nat) (N:Tmp) {n:Nat} {m0:Nat} (m:Nat) (h:wpAnyLast P md ops Q S ds fuel (lz_ n m) a' w)
 (hi:ops[i]?=some oi:=by exact rfl) (hN:oi.dst=some N:=by exact rfl) (hc:takeB md ops ds (lz_ n m0) (lz_ n m) i=true:=by exact take_ofW HT_.out HW_.out (by kernel_rfl)) (hQ:∀ c a w,Q (.panic c) (a.put oi.dst v) w->Q (.panic c) a w:=by exact fun _ _ _ h=>h)
 (hy:YieldsIf P ops S oi v a:=by exact Or.inl ⟨by rfl,by intro w' hs_;(repeat (have s_:=And.left hs_;replace hs_:=And.right hs_));go_simp;with_reducible rfl⟩) (hS:S w:=by exact hHeld) (ha:a.put (some N) v=a':=by simp only [Act.put,List.setIfInBounds_toArray,List.set_cons_zero,List.set_cons_succ,i64_w,i32_w];rfl):wpAnyLast P md ops Q S ds (fuel+1) (lz_ n m0) a w:=take_ _ hi hN hc hQ hy hS ha h
theorem tts_ (i:Nat) (N:Tmp) {n:Nat} {m0:Nat} (m:Nat) (h:wpAnyLast P md ops Q S ds fuel (lz_ n m) a' w)
 (hi:ops[i]?=some oi:=by exact rfl) (hN:oi.dst=some N:=by exact rfl) (hc:takeB md ops ds (lz_ n m0) (lz_ n m) i=true:=by exact take_ofW HT_.out HW_.out (by kernel_rfl)) (hQ:∀ c a w,Q (.panic c) (a.put oi.dst v) w->Q (.panic c) a w:=by exact fun _ _ _ h=>h)
 (hy:YieldsIf P ops S oi v a:=by exact Or.inl ⟨by rfl,by intro w' hs_;(repeat (have s_:=And.left hs_;replace hs_:=And.right hs_));go_simp;with_reducible rfl⟩) (hS:S w:=by exact hHeld) (ha:a.put (some N) v=a':=by simp only [Act.put,sT,sZ,sS,i64_w,i32_w];rfl):wpAnyLast P md ops Q S ds (fuel+1) (lz_ n m0) a w:=take_ _ hi hN hc hQ hy hS ha h
theorem tk_ (i:Nat) (N:Tmp) {n:Nat} {m0:Nat} (m:Nat) (h:wpAnyLast P md ops Q S ds fuel (lz_ n m) a' w)
 (hi:ops[i]?=some oi:=by exact rfl) (hN:oi.dst=some N:=by exact rfl) (hc:takeB md ops ds (lz_ n m0) (lz_ n m) i=true:=by kernel_rfl) (hQ:∀ c a w,Q (.panic c) (a.put oi.dst v) w->Q (.panic c) a w:=by exact fun _ _ _ h=>h)
 (hy:YieldsIf P ops S oi v a:=by exact Or.inl ⟨by rfl,by intro w' hs_;(repeat (have s_:=And.left hs_;replace hs_:=And.right hs_));go_simp;with_reducible rfl⟩) (hS:S w:=by exact hHeld) (ha:a.put (some N) v=a':=by simp only [Act.put,List.setIfInBounds_toArray,List.set_cons_zero,List.set_cons_succ,i64_w,i32_w];rfl):wpAnyLast P md ops Q S ds (fuel+1) (lz_ n m0) a w:=take_ _ hi hN hc hQ hy hS ha h
end
section
variable {P:Program} {ops:Array Oper} {rest:List Oper} {o:Oper} {a:Act} {Q:Exit->Act->World->Prop} {W:World}
theorem gd_ (N:Tmp) (h:wpList P ops Q (o :: rest) a W) (_ho:o.dst=some N:=by exact rfl):wpList P ops Q (o :: rest) a W:=h
theorem bx_ (N:Tmp) (t:TypeId) (cs:Array Value) (h:∀ g,g=W.heap.size->∀ w1,w1.heap[g]?=some (.cells cs t (0,0))->Below W.heap.size W w1->wpList P ops Q rest (a.put o.dst (.pointer (some ⟨g,0,none⟩))) w1)
 (hd:o.dst=some N:=by exact rfl) (hg:o.guard=none:=by exact rfl) (hr:(execOp a.eval o).run P W = .ok (.value (.pointer (some ⟨W.heap.size,0,none⟩))) (W.alloc (.cells cs t (0,0))):=by first|(go_simp;done)|(go_simp;rfl)):wpList P ops Q (o :: rest) a W:=box_event hg hd hr h
end
theorem gz_ {g n m:Nat} (e:g=n) (h:m≤n):m≤g:=e ▸ h
theorem nl_ {W:World} {g g':Nat} {o:Obj} (e:g'=W.heap.size) (h:W.heap[g]?=some o):g ≠ g':=by rw [e];exact Nat.ne_of_lt (blk_lt h)
theorem ng_ {W:World} {g g':Nat} {o:Obj} (e:g'=W.heap.size) (h:W.heap[g]?=some o):g' ≠ g:=(nl_ e h).symm
theorem sb_ {α β:Type} (x:α) {f:α->Option β} {r:β} (h:(some x).bind f=some r):∃ y,Aside0 (y=x)∧f y=some r:=⟨x,⟨rfl⟩,h⟩
theorem e1_ {p:Prop} (h:p:=by first|rfl|(simp;done)|(simp [*];done)):p:=h
theorem e2_ {p:Prop} (h:p:=by first|rfl|(simp [errW_none,errW_some] <;> rfl)|(simp [*,errW_none,errW_some] <;> rfl)):p:=h
theorem dw_ {w w':World} (h:Drawn0 w w':=by repeat (first|exact Drawn0.refl _|apply Drawn0.step)):Drawn0 w w':=h
theorem le_ {a b:Nat} (h:a≤b:=by first|omega|exact Nat.le_refl _):a≤b:=h
theorem as_ {p:Prop} (h:p:=by first|(with_reducible assumption)|assumption):p:=h
section
variable {w:World} {g:Nat} {t:TypeId} {c0 c1 c2 c3 c4 c5 c6 c7 c8:Value} {l:List Value}
theorem bc0_ (h:w.heap[g]?=some (.cells (c0 :: l).toArray t (0,0))):w.cell? ⟨g,0,none⟩=some c0:=(blk_cell h 0).trans rfl
theorem bc1_ (h:w.heap[g]?=some (.cells (c0 :: c1 :: l).toArray t (0,0))):w.cell? ⟨g,1,none⟩=some c1:=(blk_cell h 1).trans rfl
theorem bc2_ (h:w.heap[g]?=some (.cells (c0 :: c1 :: c2 :: l).toArray t (0,0))):w.cell? ⟨g,2,none⟩=some c2:=(blk_cell h 2).trans rfl
theorem bc3_ (h:w.heap[g]?=some (.cells (c0 :: c1 :: c2 :: c3 :: l).toArray t (0,0))):w.cell? ⟨g,3,none⟩=some c3:=(blk_cell h 3).trans rfl
theorem bc4_ (h:w.heap[g]?=some (.cells (c0 :: c1 :: c2 :: c3 :: c4 :: l).toArray t (0,0))):w.cell? ⟨g,4,none⟩=some c4:=(blk_cell h 4).trans rfl
theorem bc5_ (h:w.heap[g]?=some (.cells (c0 :: c1 :: c2 :: c3 :: c4 :: c5 :: l).toArray t (0,0))):w.cell? ⟨g,5,none⟩=some c5:=(blk_cell h 5).trans rfl
theorem bc6_ (h:w.heap[g]?=some (.cells (c0 :: c1 :: c2 :: c3 :: c4 :: c5 :: c6 :: l).toArray t (0,0))):w.cell? ⟨g,6,none⟩=some c6:=(blk_cell h 6).trans rfl
theorem bc7_ (h:w.heap[g]?=some (.cells (c0 :: c1 :: c2 :: c3 :: c4 :: c5 :: c6 :: c7 :: l).toArray t (0,0))):w.cell? ⟨g,7,none⟩=some c7:=(blk_cell h 7).trans rfl
end
section
variable {P:Program} {ops:Array Oper} {Q:Exit->Act->World->Prop} {md:Region.Mode} {S:World->Prop} {ds:List Nat}
theorem ge_ {oi:Oper} {N:Option Tmp} {a:Act} {w:World} {K:Act->World->Prop} {f:FuncId} {fn:Func} {az:Array Operand} {ts:Array TypeId} (hf:P.funcs[f]?=some fn) (args:Array Value)
 (h:Calls P f args w fun e w'=>∃ v,e = .returned v∧K (a.put N v) w')
 (hname:(fn.name == "runtime.NumGoroutine")=false:=by kernel_rfl) (hb:fn.body.isSome=true:=by exact rfl) (hw:Region.wanted oi (yielded ops a.tmps)=true:=by rfl) (hN:oi.dst=N:=by exact rfl)
 (hop:oi.op = .call { callee:=.value (.func f),args:=az,argTypes:=ts }:=by exact rfl) (hargs:az.map a.eval=args:=by (try simp only [List.map_toArray,List.map_cons,List.map_nil]);first|done|rfl|(simp only [List.length_drop,List.length_take];rfl)):if Region.wanted oi (yielded ops a.tmps)=true then Oper.wp P oi a w K Q else K (a.put N undef) w:=goes_ hf hname hb args hw hN hop hargs h
theorem gf_ {oi:Oper} {N:Option Tmp} {a:Act} {w:World} {K:Act->World->Prop} {R:Ending->World->Prop} {f:FuncId} {fn:Func} {args:Array Value} {az:Array Operand} {ts:Array TypeId} (hf:P.funcs[f]?=some fn) (hc:Calls P f args w R)
 (h:∀ e w',R e w'->∃ v,e = .returned v∧K (a.put N v) w')
 (hname:(fn.name == "runtime.NumGoroutine")=false:=by kernel_rfl) (hb:fn.body.isSome=true:=by exact rfl) (hw:Region.wanted oi (yielded ops a.tmps)=true:=by rfl) (hN:oi.dst=N:=by exact rfl)
 (hop:oi.op = .call { callee:=.value (.func f),args:=az,argTypes:=ts }:=by exact rfl) (hargs:az.map a.eval=args:=by (try simp only [List.map_toArray,List.map_cons,List.map_nil]);first|done|rfl|(simp only [List.length_drop,List.length_take];rfl)):if Region.wanted oi (yielded ops a.tmps)=true then Oper.wp P oi a w K Q else K (a.put N undef) w:=goes_ hf hname hb args hw hN hop hargs (hc.mono h)
theorem no_ (N:Tmp) {fuel:Nat} {l:Array Bool} {d:Option Tmp} {v:Value} {b a':Act} {w:World} (h:wpAnyLast P md ops Q S ds fuel l a' w) (hd:d=some N:=by exact rfl) (ha:b.put (some N) v=a':=by simp only [Act.put,List.setIfInBounds_toArray,List.set_cons_zero,List.set_cons_succ,i64_w,i32_w];rfl):wpAnyLast P md ops Q S ds fuel l (b.put d v) w:=by subst hd;exact norm_ ha h
theorem nos_ (N:Tmp) {fuel:Nat} {l:Array Bool} {d:Option Tmp} {v:Value} {b a':Act} {w:World} (h:wpAnyLast P md ops Q S ds fuel l a' w) (hd:d=some N:=by exact rfl) (ha:b.put (some N) v=a':=by simp only [Act.put,sT,sZ,sS,i64_w,i32_w];rfl):wpAnyLast P md ops Q S ds fuel l (b.put d v) w:=by subst hd;exact norm_ ha h
theorem nj_ {fuel:Nat} {l:Array Bool} {a a':Act} {w:World} (h:wpAnyLast P md ops Q S ds fuel l a' w) (ha:a=a':=by first|(simp only [putAll,Act.put,List.setIfInBounds_toArray,List.set_cons_zero,List.set_cons_succ];done)|(simp only [putAll,Act.put,List.setIfInBounds_toArray,List.set_cons_zero,List.set_cons_succ];rfl)):wpAnyLast P md ops Q S ds fuel l a w:=norm_ ha h
theorem njs_ {fuel:Nat} {l:Array Bool} {a a':Act} {w:World} (h:wpAnyLast P md ops Q S ds fuel l a' w) (ha:a=a':=by first|(simp only [putAll,Act.put,sT,sZ,sS,List.getD_cons_zero,List.getD_cons_succ];done)|(simp only [putAll,Act.put,sT,sZ,sS,List.getD_cons_zero,List.getD_cons_succ];rfl)):wpAnyLast P md ops Q S ds fuel l a w:=norm_ ha h
theorem bz_ {o:Oper} {a:Act} {W:World} {Kc:Act->World->Prop} (N:Tmp) (t:TypeId) (cs:Array Value)
 (h:∀ g,g=W.heap.size->∀ w1,w1.heap[g]?=some (.cells cs t (0,0))->Below W.heap.size W w1->Kc (a.put o.dst (.pointer (some ⟨g,0,none⟩))) w1)
 (hd:o.dst=some N:=by exact rfl) (hw:Region.wanted o (yielded ops a.tmps)=true:=by rfl) (hr:(execOp a.eval o).run P W = .ok (.value (.pointer (some ⟨W.heap.size,0,none⟩))) (W.alloc (.cells cs t (0,0))):=by first|(go_simp;done)|(go_simp;rfl)):if Region.wanted o (yielded ops a.tmps)=true then Oper.wp P o a W Kc Q else Kc (a.put o.dst undef) W:=box_step hw hd hr h
end
section
variable {P:Program} {ops:Array Oper} {rest:List Oper} {o:Oper} {a:Act} {Q:Exit->Act->World->Prop} {W:World} {R:Ending->World->Prop}
theorem gq_ (f:FuncId) (N:Tmp) {az:Array Operand} {ts:Array TypeId} (h:wpList P ops Q (o :: rest) a W) (_ho:o.op = .call { callee:=.value (.func f),args:=az,argTypes:=ts }:=by exact rfl) (_hd:o.dst=some N:=by exact rfl):wpList P ops Q (o :: rest) a W:=h
theorem gc_ (N:Tmp) {f:FuncId} {fn:Func} {args:Array Value} {az:Array Operand} {ts:Array TypeId} (hf:P.funcs[f]?=some fn) (hc:Calls P f args W R)
 (h:∀ e w',R e w'->∃ v,e = .returned v∧wpList P ops Q rest (a.put (some N) v) w')
 (hd:o.dst=some N:=by exact rfl) (hg:o.guard=none:=by exact rfl) (hname:(fn.name == "runtime.NumGoroutine")=false:=by kernel_rfl) (hb:fn.body.isSome=true:=by exact rfl)
 (hop:o.op = .call { callee:=.value (.func f),args:=az,argTypes:=ts }:=by exact rfl) (hargs:az.map a.eval=args:=by (try simp only [List.map_toArray,List.map_cons,List.map_nil]);first|done|rfl|(simp only [List.length_drop,List.length_take];rfl)):wpList P ops Q (o :: rest) a W:=goesL_ (some N) hd hg hf hname hb args hop hargs (hc.mono h)
end
theorem ss_ {w w1 w2 w3:World} (h:Aside0 (Below w.heap.size w w1)) (hb:Below w2.heap.size w2 w3) (g:Below w.heap.size w w1->Below w.heap.size w w2:=by intro h_;repeat (first|(with_reducible first|exact h_|apply below_alloc|apply pw_below_drewN|apply below_drew1|refine below_set ?_ (Aside0.out (by assumption)))|exact h_)):Aside0 (Below w.heap.size w w3):=⟨below_step (g h.out) hb⟩
theorem sz_ {w w1 w2:World} (h:Aside0 (Below w.heap.size w w1)) (g:Below w.heap.size w w1->Below w.heap.size w w2:=by intro h_;repeat (first|(with_reducible first|exact h_|apply below_alloc|apply pw_below_drewN|apply below_drew1|refine below_set ?_ (Aside0.out (by assumption)))|exact h_)):w.heap.size≤w2.heap.size:=below_size (g h.out)
theorem gg_ {w w1 w2:World} {b:Nat} (hg:b=w2.heap.size) (h:Aside0 (Below w.heap.size w w1)) (g:Below w.heap.size w w1->Below w.heap.size w w2:=by intro h_;repeat (first|(with_reducible first|exact h_|apply below_alloc|apply pw_below_drewN|apply below_drew1|refine below_set ?_ (Aside0.out (by assumption)))|exact h_)):Aside0 (w.heap.size≤b):=⟨gz_ hg (below_size (g h.out))⟩
section
variable {w W w' w1:World} {g g':Nat} {o o':Obj}
theorem bf_ {p:Addr} {u:Value} (hp:g ≠ p.block) (h:w.heap[g]?=some o):(w.setCell p u).heap[g]?=some o:=(Below.heap_setCell w p u g hp).trans h
theorem kq_ (h:Aside0 (w.heap[g]?=some o)) (f:w.heap[g]?=some o->w'.heap[g]?=some o':=by intro h_;(iterate 16 (with_reducible first|exact h_|refine blk_drewN ?_ _|refine blk_drew ?_|refine blk_alloc ?_ _|(apply bf_;exact Aside0.out (by assumption))|apply blk_put|skip));all_goals rfl):w'.heap[g]?=some o':=f h.out
theorem kl_ (h:Aside0 (w.heap[g]?=some o)) (hb:Below W.heap.size W w') (f:w.heap[g]?=some o->W.heap[g]?=some o:=by intro h_;(with_reducible repeat (first|refine blk_drewN ?_ _|refine blk_drew ?_|refine blk_alloc ?_ _));exact h_):Aside0 (w'.heap[g]?=some o):=⟨blk_below (f h.out) hb⟩
theorem kp_ (h:Aside0 (w.heap[g]?=some o)) (hb:Below W.heap.size W w') (f:w.heap[g]?=some o->W.heap[g]?=some o':=by intro h_;(iterate 16 (with_reducible first|exact h_|refine blk_drewN ?_ _|refine blk_drew ?_|refine blk_alloc ?_ _|(apply bf_;exact Aside0.out (by assumption))|apply blk_put|skip));all_goals (simp only [List.setIfInBounds_toArray,List.set_cons_zero,List.set_cons_succ];rfl)):Aside0 (w'.heap[g]?=some o'):=⟨blk_below (f h.out) hb⟩
theorem nla_ (e:g'=W.heap.size) (h:Aside0 (w.heap[g]?=some o)) (f:w.heap[g]?=some o->W.heap[g]?=some o:=by intro h_;(with_reducible repeat (first|refine blk_drewN ?_ _|refine blk_drew ?_|refine blk_alloc ?_ _));exact h_):Aside0 (g ≠ g'):=⟨nl_ e (f h.out)⟩
theorem nga_ (e:g'=W.heap.size) (h:Aside0 (w.heap[g]?=some o)) (f:w.heap[g]?=some o->W.heap[g]?=some o:=by intro h_;(with_reducible repeat (first|refine blk_drewN ?_ _|refine blk_drew ?_|refine blk_alloc ?_ _));exact h_):Aside0 (g' ≠ g):=⟨ng_ e (f h.out)⟩
end
section
variable {α β:Type} {d:Kd α} {d':Kd β} {e e' base g n c:Nat} {ok ok':Nat->Prop} {w W w' w1:World} {v u:Value} {xs:List α} {ys:List β} {A:Option Addr} {t:TypeId} {cs cs':Array Value} {row:Option Nat}
theorem kg_ (h:Aside0 (w.heap[g]?=some (.cells cs t (0,0)))) (k:Aside0 (d.R e w base ok v xs)) (hg:W.grownBy w' v.ownBlock) (hne:e ≠ t:=by decide) (f:w.heap[g]?=some (.cells cs t (0,0))->W.heap[g]?=some (.cells cs t (0,0)):=by intro h_;(with_reducible repeat (first|refine blk_drewN ?_ _|refine blk_drew ?_|refine blk_alloc ?_ _));exact h_):Aside0 (w'.heap[g]?=some (.cells cs t (0,0))):=⟨blk_grown (f h.out) hg (Kd.R_ne k.out h.out hne)⟩
theorem kgp_ (h:Aside0 (w.heap[g]?=some (.cells cs t (0,0)))) (k:Aside0 (d.R e w base ok v xs)) (hg:W.grownBy w' v.ownBlock) (hne:e ≠ t:=by decide) (f:w.heap[g]?=some (.cells cs t (0,0))->W.heap[g]?=some (.cells cs' t (0,0)):=by intro h_;(iterate 16 (with_reducible first|exact h_|refine blk_drewN ?_ _|refine blk_drew ?_|refine blk_alloc ?_ _|(apply bf_;exact Aside0.out (by assumption))|apply blk_put|skip));all_goals (simp only [List.setIfInBounds_toArray,List.set_cons_zero,List.set_cons_succ];rfl)):Aside0 (w'.heap[g]?=some (.cells cs' t (0,0))):=⟨blk_grown (f h.out) hg (Kd.R_ne k.out h.out hne)⟩
theorem kf_ (h:Aside0 (d.R e w base ok v xs)) (k:Aside0 (w.heap[g]?=some (.cells cs t (0,0)))) (hne:∀ q,q ∈ e :: d.E->q ≠ t:=by decide) (f:d.R e w base (fun k=>ok k∧k ≠ g) v xs->d.R e W base (fun k=>ok k∧k ≠ g) v xs:=by intro h_;repeat (with_reducible first|exact h_|apply Kd.R_alloc|apply Kd.R_drewN|apply Kd.R_drew|refine Kd.R_far ?_ (fun _ hk=>hk.2) _)):d.R e W base ok v xs:=Kd.R_mono (f (Kd.R_types h.out k.out hne)) (fun _ h_=>h_.1)
theorem lf_ (h:Aside0 (d.R e w base ok v xs)) (k:Aside0 (w.heap[g]?=some (.cells cs t (0,0)))) (hne:∀ q,q ∈ e :: d.E->q ≠ t:=by decide) (f:d.R e w base (fun k=>ok k∧k ≠ g) v xs->d.R e W base (fun k=>ok k∧k ≠ g) v xs:=by intro h_;repeat (with_reducible first|exact h_|apply Kd.R_alloc|apply Kd.R_drewN|apply Kd.R_drew|refine Kd.R_far ?_ (fun _ hk=>hk.2) _)):∀ k,v.ownBlock=some k->k < W.heap.size:=Kd.R_lt (f (Kd.R_types h.out k.out hne))
theorem lt_ (h:Aside0 (d.R e w base ok v xs)) (f:d.R e w base ok v xs->d.R e W base ok v xs:=by intro h_;(with_reducible repeat (first|apply Kd.R_alloc|apply Kd.R_drewN|apply Kd.R_drew));exact h_):∀ k,v.ownBlock=some k->k < W.heap.size:=Kd.R_lt (f h.out)
theorem rb_ (h:Aside0 (d.R e w base ok v xs)) (hb:Below W.heap.size W w1) (f:d.R e w base ok v xs->d.R e W base ok v xs:=by intro h_;(with_reducible repeat (first|apply Kd.R_alloc|apply Kd.R_drewN|apply Kd.R_drew));exact h_):Aside0 (d.R e w1 base ok v xs):=⟨Kd.R_below (f h.out) hb⟩
theorem rbf_ (h:Aside0 (d.R e w base ok v xs)) (k:Aside0 (w.heap[g]?=some (.cells cs t (0,0)))) (hb:Below W.heap.size W w1) (hne:∀ q,q ∈ e :: d.E->q ≠ t:=by decide) (f:d.R e w base (fun k=>ok k∧k ≠ g) v xs->d.R e W base (fun k=>ok k∧k ≠ g) v xs:=by intro h_;repeat (with_reducible first|exact h_|apply Kd.R_alloc|apply Kd.R_drewN|apply Kd.R_drew|refine Kd.R_far ?_ (fun _ hk=>hk.2) _)):Aside0 (d.R e w1 base ok v xs):=⟨Kd.R_below (kf_ h k hne f) hb⟩
theorem re_ {xs':List β} (h:Aside0 (d.R e w base ok u xs)) (ho:d'.R e' w1 W.heap.size ok' v xs') (hb:Below W.heap.size W w1) (f:d.R e w base ok u xs->d.R e W base ok u xs:=by intro h_;(with_reducible repeat (first|apply Kd.R_alloc|apply Kd.R_drewN|apply Kd.R_drew));exact h_):Aside0 (d.R e w1 base (fun k=>ok k∧some k ≠ v.ownBlock) u xs):=⟨Kd.R_elder' (f h.out) (Kd.R_base ho) hb⟩
theorem ref_ {xs':List β} (h:Aside0 (d.R e w base ok u xs)) (k:Aside0 (w.heap[g]?=some (.cells cs t (0,0)))) (ho:d'.R e' w1 W.heap.size ok' v xs') (hb:Below W.heap.size W w1) (hne:∀ q,q ∈ e :: d.E->q ≠ t:=by decide) (f:d.R e w base (fun k=>ok k∧k ≠ g) u xs->d.R e W base (fun k=>ok k∧k ≠ g) u xs:=by intro h_;repeat (with_reducible first|exact h_|apply Kd.R_alloc|apply Kd.R_drewN|apply Kd.R_drew|refine Kd.R_far ?_ (fun _ hk=>hk.2) _)):Aside0 (d.R e w1 base (fun k=>ok k∧some k ≠ v.ownBlock) u xs):=⟨Kd.R_elder' (kf_ h k hne f) (Kd.R_base ho) hb⟩
theorem cb_ (h:Aside0 (d.C w A n xs)) (hb:Aside0 (Below w.heap.size w w')) (f:d.C w' A n xs->d.C W A n xs:=by intro h_;repeat (first|exact h_|(with_reducible refine Kd.C_alloc ?_ _)|(with_reducible refine Kd.C_drewN ?_ _)|(with_reducible refine Kd.C_drew ?_))):d.C W A n xs:=f (Kd.C_below h.out hb.out)
theorem ch_ (h:Aside0 (d.R e w base ok (.slice A n c) xs)) (f:d.C w A xs.length xs->d.C W A xs.length xs:=by intro h_;repeat (first|exact h_|(with_reducible refine Kd.C_alloc ?_ _)|(with_reducible refine Kd.C_drewN ?_ _)|(with_reducible refine Kd.C_drew ?_))):d.C W A xs.length xs:=f (Kd.R_reads' h.out).2.2
theorem chf_ (h:Aside0 (d.R e w base ok (.slice A n c) xs)) (k:Aside0 (w.heap[g]?=some (.cells cs t (0,0)))) (hne:∀ q,q ∈ e :: d.E->q ≠ t:=by decide) (f:d.R e w base (fun k=>ok k∧k ≠ g) (.slice A n c) xs->d.R e W base (fun k=>ok k∧k ≠ g) (.slice A n c) xs:=by intro h_;repeat (with_reducible first|exact h_|apply Kd.R_alloc|apply Kd.R_drewN|apply Kd.R_drew|refine Kd.R_far ?_ (fun _ hk=>hk.2) _)):d.C W A xs.length xs:=(Kd.R_reads' (kf_ h k hne f)).2.2
theorem cl_ (h:Aside0 (d.R e w base ok (.slice A n c) xs)):n≤c:=(Kd.R_reads' h.out).2.1
theorem ai_ {kk:IntKind} {m:Nat} {ns:List Int} (h:(Kd.int kk).C w A m ns) (i:Int) (p:decide (0≤i)=true:=by assumption) (q:decide (i < (m:Int))=true:=by assumption):∃ ad,A=some ad∧w.cell? (ad.add i.toNat)=some (.int kk (rd ns i))∧((0≤i)=True)∧((i < (m:Int))=True) :=
 let ⟨ad,h1,h2⟩:=Kd.at_int h i (of_decide_eq_true p) (of_decide_eq_true q)
 ⟨ad,h1,h2,eq_true (of_decide_eq_true p),eq_true (of_decide_eq_true q)⟩
end
section
variable {p:Prop} [Decidable p] {α β:Type} {x y r:α} {s:β} {u:Option β}
theorem it_ (H:(if p then x else y)=r):(p∧x=r)∨(¬ p∧y=r):=by by_cases h:p;exact .inl ⟨h,(if_pos h).symm.trans H⟩;exact .inr ⟨h,(if_neg h).symm.trans H⟩
theorem itd_ (H:(if p then x else y)=r):(decide p=true∧x=r)∨(decide p=false∧y=r):=(it_ H).imp (fun h=>⟨decide_eq_true h.1,h.2⟩) (fun h=>⟨decide_eq_false h.1,h.2⟩)
theorem ip_ (H:(if p then u else none)=some s):p∧u=some s:=(it_ H).elim id (fun h=>nomatch h.2)
theorem ipd_ (H:(if p then u else none)=some s):decide p=true∧u=some s:=⟨decide_eq_true (ip_ H).1,(ip_ H).2⟩
theorem in_ (H:(if p then none else u)=some s):¬ p∧u=some s:=(it_ H).elim (fun h=>nomatch h.2) id
theorem ind_ (H:(if p then none else u)=some s):decide p=false∧u=some s:=⟨decide_eq_false (in_ H).1,(in_ H).2⟩
theorem itb_ {b:Bool} (H:(if b=true then x else y)=r):(b=true∧x=r)∨(b=false∧y=r):=(it_ H).imp id (fun h=>⟨Bool.eq_false_iff.mpr h.1,h.2⟩)
theorem ipb_ {b:Bool} (H:(if b=true then u else none)=some s):b=true∧u=some s:=ip_ H
theorem inb_ {b:Bool} (H:(if b=true then none else u)=some s):b=false∧u=some s:=⟨Bool.eq_false_iff.mpr (in_ H).1,(in_ H).2⟩
theorem bi_ {γ:Type} {z:Option γ} {f:γ->Option β} (H:z.bind f=some s):∃ a,Aside0 (z=some a)∧f a=some s:=let ⟨a,h,k⟩:=Option.bind_eq_some_iff.mp H;⟨a,⟨h⟩,k⟩
theorem yh_ {γ:Type} {a b:γ} {P Q:Prop} (e:a=b) (h:P) (f:a=b->P->Q:=by intro e_ H;first|(rw [e_];with_reducible exact H)|(have H2_:=(Option.bind_some _ _).symm.trans H;rw [e_];with_reducible exact H2_)|(have H2_:=(Option.bind_some _ _).symm.trans H;with_reducible exact H2_)|with_reducible exact H|(rw [e_];exact H)|exact H):Q:=f e h
end
theorem so2_ {A B:Type} {x0 y0:A} {x1 y1:B} (H:some (x0,x1)=some (y0,y1)):x0=y0∧x1=y1:=by cases H;exact ⟨rfl,rfl⟩
theorem so3_ {A B C:Type} {x0 y0:A} {x1 y1:B} {x2 y2:C} (H:some (x0,x1,x2)=some (y0,y1,y2)):x0=y0∧x1=y1∧x2=y2:=by cases H;exact ⟨rfl,rfl,rfl⟩
theorem so4_ {A B C D:Type} {x0 y0:A} {x1 y1:B} {x2 y2:C} {x3 y3:D} (H:some (x0,x1,x2,x3)=some (y0,y1,y2,y3)):x0=y0∧x1=y1∧x2=y2∧x3=y3:=by cases H;exact ⟨rfl,rfl,rfl,rfl⟩
theorem so5_ {A B C D E:Type} {x0 y0:A} {x1 y1:B} {x2 y2:C} {x3 y3:D} {x4 y4:E} (H:some (x0,x1,x2,x3,x4)=some (y0,y1,y2,y3,y4)):x0=y0∧x1=y1∧x2=y2∧x3=y3∧x4=y4:=by cases H;exact ⟨rfl,rfl,rfl,rfl,rfl⟩
theorem so6_ {A B C D E F:Type} {x0 y0:A} {x1 y1:B} {x2 y2:C} {x3 y3:D} {x4 y4:E} {x5 y5:F} (H:some (x0,x1,x2,x3,x4,x5)=some (y0,y1,y2,y3,y4,y5)):x0=y0∧x1=y1∧x2=y2∧x3=y3∧x4=y4∧x5=y5:=by cases H;exact ⟨rfl,rfl,rfl,rfl,rfl,rfl⟩
theorem so8_ {A B C D E F G H:Type} {x0 y0:A} {x1 y1:B} {x2 y2:C} {x3 y3:D} {x4 y4:E} {x5 y5:F} {x6 y6:G} {x7 y7:H} (H:some (x0,x1,x2,x3,x4,x5,x6,x7)=some (y0,y1,y2,y3,y4,y5,y6,y7)):x0=y0∧x1=y1∧x2=y2∧x3=y3∧x4=y4∧x5=y5∧x6=y6∧x7=y7:=by cases H;exact ⟨rfl,rfl,rfl,rfl,rfl,rfl,rfl,rfl⟩
section
variable {w:World} {g:Nat} {t:TypeId} {c0 c1 c2 c3 c4 c5 c6 c7:Value}
theorem cz2_ (h:Aside0 (w.heap[g]?=some (.cells #[c0,c1] t (0,0)))):w.cell? ⟨g,0,none⟩=some c0∧w.cell? ⟨g,1,none⟩=some c1∧w.frozen? ⟨g,0,none⟩=false∧w.frozen? ⟨g,1,none⟩=false:=⟨(blk_cell h.out 0).trans rfl,(blk_cell h.out 1).trans rfl,blk_frozen h.out 0,blk_frozen h.out 1⟩
theorem cz3_ (h:Aside0 (w.heap[g]?=some (.cells #[c0,c1,c2] t (0,0)))):w.cell? ⟨g,0,none⟩=some c0∧w.cell? ⟨g,1,none⟩=some c1∧w.cell? ⟨g,2,none⟩=some c2∧w.frozen? ⟨g,0,none⟩=false∧w.frozen? ⟨g,1,none⟩=false∧w.frozen? ⟨g,2,none⟩=false:=⟨(blk_cell h.out 0).trans rfl,(blk_cell h.out 1).trans rfl,(blk_cell h.out 2).trans rfl,blk_frozen h.out 0,blk_frozen h.out 1,blk_frozen h.out 2⟩
theorem cz5_ (h:Aside0 (w.heap[g]?=some (.cells #[c0,c1,c2,c3,c4] t (0,0)))):w.cell? ⟨g,0,none⟩=some c0∧w.cell? ⟨g,1,none⟩=some c1∧w.cell? ⟨g,2,none⟩=some c2∧w.cell? ⟨g,3,none⟩=some c3∧w.cell? ⟨g,4,none⟩=some c4∧w.frozen? ⟨g,0,none⟩=false∧w.frozen? ⟨g,1,none⟩=false∧w.frozen? ⟨g,2,none⟩=false∧w.frozen? ⟨g,3,none⟩=false∧w.frozen? ⟨g,4,none⟩=false:=⟨(blk_cell h.out 0).trans rfl,(blk_cell h.out 1).trans rfl,(blk_cell h.out 2).trans rfl,(blk_cell h.out 3).trans rfl,(blk_cell h.out 4).trans rfl,blk_frozen h.out 0,blk_frozen h.out 1,blk_frozen h.out 2,blk_frozen h.out 3,blk_frozen h.out 4⟩
theorem cz8_ (h:Aside0 (w.heap[g]?=some (.cells #[c0,c1,c2,c3,c4,c5,c6,c7] t (0,0)))):w.cell? ⟨g,0,none⟩=some c0∧w.cell? ⟨g,1,none⟩=some c1∧w.cell? ⟨g,2,none⟩=some c2∧w.cell? ⟨g,3,none⟩=some c3∧w.cell? ⟨g,4,none⟩=some c4∧w.cell? ⟨g,5,none⟩=some c5∧w.cell? ⟨g,6,none⟩=some c6∧w.cell? ⟨g,7,none⟩=some c7∧w.frozen? ⟨g,0,none⟩=false∧w.frozen? ⟨g,1,none⟩=false∧w.frozen? ⟨g,2,none⟩=false∧w.frozen? ⟨g,3,none⟩=false∧w.frozen? ⟨g,4,none⟩=false∧w.frozen? ⟨g,5,none⟩=false∧w.frozen? ⟨g,6,none⟩=false∧w.frozen? ⟨g,7,none⟩=false:=⟨(blk_cell h.out 0).trans rfl,(blk_cell h.out 1).trans rfl,(blk_cell h.out 2).trans rfl,(blk_cell h.out 3).trans rfl,(blk_cell h.out 4).trans rfl,(blk_cell h.out 5).trans rfl,(blk_cell h.out 6).trans rfl,(blk_cell h.out 7).trans rfl,blk_frozen h.out 0,blk_frozen h.out 1,blk_frozen h.out 2,blk_frozen h.out 3,blk_frozen h.out 4,blk_frozen h.out 5,blk_frozen h.out 6,blk_frozen h.out 7⟩
end
theorem hn5_ {p0 p1 p2 p3 p4:Prop} (h0:p0) (h1:p1) (h2:p2) (h3:p3) (h4:p4):p0∧p1∧p2∧p3∧p4:=⟨h0,h1,h2,h3,h4⟩
theorem kn_ {w w1 w2:World} {g:Nat} {row:Option Nat} (h:Aside0 (KeepBut w w1 g row)) (f:KeepBut w w1 g row->KeepBut w w2 g row:=by intro h_;repeat (first|(with_reducible first|exact h_|apply KeepBut.set_|apply keep_drewN|apply keep_drew|apply keep_alloc|refine keep_far ?_ (Aside0.out (by assumption)) _)|exact h_)):KeepBut w w2 g row:=f h.out
theorem kt_ {w w1 w2:World} {S:Nat->Prop} (h:Aside0 (Kept w w1 S)) (f:Kept w w1 S->Kept w w2 S:=by intro h_;repeat (first|(with_reducible first|exact h_|apply Kept.alloc|apply Kept.drewN|apply Kept.drew)|exact h_)):Kept w w2 S:=f h.out
theorem cw_ {w W:World} {p:Addr} {v:Value} (hb:Aside0 (Below w.heap.size w W)) (h:w.cell? p=some v):W.cell? p=some v:=(hb.out.cell (World.block_lt_of_cell? w _ h)).trans h
theorem kbk_ {W w':World} {g g':Nat} {o:Obj} (hk:KeepBut W w' g none) (h:W.heap[g']?=some o) (n:Aside0 (g' ≠ g)):Aside0 (w'.heap[g']?=some o):=⟨KeepBut.blk hk h n.out (by simp)⟩
section
variable {α:Type} {d:Kd α} {e base g g2:Nat} {ok ok':Nat->Prop} {w W w' w1 w2:World} {v u:Value} {xs:List α} {t t2:TypeId} {cs cs2:Array Value}
theorem kfm_ (h:Aside0 (d.R e w base ok v xs)) (k:Aside0 (w.heap[g]?=some (.cells cs t (0,0)))) (hne:∀ q,q ∈ e :: d.E->q ≠ t:=by decide) (f:d.R e w base (fun k=>ok k∧k ≠ g) v xs->d.R e W base (fun k=>ok k∧k ≠ g) v xs:=by intro h_;repeat (with_reducible first|exact h_|apply Kd.R_alloc|apply Kd.R_drewN|apply Kd.R_drew|refine Kd.R_far ?_ (fun _ hk=>hk.2) _)) (m:∀ k,ok k->ok' k:=by first|exact fun _ hk=>hk|exact fun _ _=>trivial|exact fun _ hk=>hk.1):d.R e W base ok' v xs:=Kd.R_mono (kf_ h k hne f) m
theorem rfa_ {i:Nat} {r:Option Nat} (h:d.R e w base (fun k=>(ok k∧k ≠ g)∧k ≠ g2) v xs):d.R e (w.setCell ⟨g2,i,r⟩ u) base (fun k=>(ok k∧k ≠ g)∧k ≠ g2) v xs:=Kd.R_far h (fun _ hk=>hk.2) u
theorem rfb_ {i:Nat} {r:Option Nat} (h:d.R e w base (fun k=>(ok k∧k ≠ g)∧k ≠ g2) v xs):d.R e (w.setCell ⟨g,i,r⟩ u) base (fun k=>(ok k∧k ≠ g)∧k ≠ g2) v xs:=Kd.R_far h (fun _ hk=>hk.1.2) u
theorem kfm2_ (h:Aside0 (d.R e w base ok v xs)) (k:Aside0 (w.heap[g]?=some (.cells cs t (0,0)))) (k2:Aside0 (w.heap[g2]?=some (.cells cs2 t2 (0,0)))) (hne:∀ q,q ∈ e :: d.E->q ≠ t:=by decide) (hne2:∀ q,q ∈ e :: d.E->q ≠ t2:=by decide) (f:d.R e w base (fun k=>(ok k∧k ≠ g)∧k ≠ g2) v xs->d.R e W base (fun k=>(ok k∧k ≠ g)∧k ≠ g2) v xs:=by intro h_;repeat (with_reducible first|exact h_|apply Kd.R_alloc|apply Kd.R_drewN|apply Kd.R_drew|apply rfa_|apply rfb_)) (m:∀ k,ok k->ok' k:=by first|exact fun _ hk=>hk|exact fun _ _=>trivial|exact fun _ hk=>hk.1):d.R e W base ok' v xs:=Kd.R_mono (f (Kd.R_types (Kd.R_types h.out k.out hne) k2.out hne2)) (fun _ h_=>m _ h_.1.1)
theorem km_ (h:Aside0 (d.R e w base ok v xs)) (f:d.R e w base ok v xs->d.R e W base ok v xs:=by intro h_;(with_reducible repeat (first|apply Kd.R_alloc|apply Kd.R_drewN|apply Kd.R_drew));exact h_) (m:∀ k,ok k->ok' k:=by first|exact fun _ _=>trivial|exact fun _ hk=>hk|exact fun _ hk=>hk.1):d.R e W base ok' v xs:=Kd.R_mono (f h.out) m
theorem cff_ {q p:Addr} {u:Value} {x:Option Value} (h:q.block ≠ p.block) (k:W.cell? q=x):(W.setCell p u).cell? q=x:=(cell_far h u).trans k
theorem cf_ {q:Addr} {x:Option Value} (n:Aside0 (g ≠ g2)) (h:w.cell? q=x) (f:g ≠ g2->w.cell? q=x->w'.cell? q=x:=by intro n_ h_;repeat (first|with_reducible exact h_|refine cff_ n_ ?_)):w'.cell? q=x:=f n.out h
theorem rlo_ (h:d.R e w1 W.heap.size ok v xs) (b:Aside0 (Below w.heap.size w w2)) (f:Below w.heap.size w w2->Below w.heap.size w W:=by intro h_;repeat (first|(with_reducible first|exact h_|apply below_alloc|apply pw_below_drewN|apply below_drew1|refine below_set ?_ (Aside0.out (by assumption)))|exact h_)):Aside0 (d.R e w1 w.heap.size ok v xs):=⟨Kd.R_lower h (below_size (f b.out))⟩
theorem bd_ {o:Obj} (h:Aside0 (w.heap[g]?=some o)):Aside0 (w.drew.heap[g]?=some o):=⟨blk_drew h.out⟩
theorem hd_ (h:Aside0 (Below w.heap.size w w1)):Aside0 (Below w.heap.size w w1.drew):=⟨below_drew1 h.out⟩
theorem h0_ (w:World):Aside0 (Below w.heap.size w w):=⟨Below.refl _ w⟩
end
section
variable {P:Program} {ops:Array Oper} {Q:Exit->Act->World->Prop} {md:Region.Mode} {S:World->Prop} {ds:List Nat} {T:Bool × List (List Nat × List Nat)}
theorem oz_ (i:Nat) (N:Tmp) (n m:Nat) {oi:Oper} {fuel:Nat} {l:Array Bool} {a:Act} {w:World}
 (h:∀ K:Act->World->Prop,Shut (∀ a' w',S w'->(S w'->wpAnyLast P md ops Q S ds fuel (lz_ n m) a' w')->K a' w')->if Region.wanted oi (yielded ops a.tmps)=true then Oper.wp P oi a w K Q else K (a.put (some N) undef) w)
 (hi:ops[i]?=some oi:=by exact rfl) (hN:oi.dst=some N:=by exact rfl) (hc:readyB md ops l (lz_ n m) i=true:=by exact one_of HT_.out (by kernel_rfl)) (hd:i ∉ ds:=by decide):wpAnyLast P md ops Q S ds (fuel+1) l a w:=one_ (lz_ n m) hi hN hc hd h
theorem dn_ {l:Array Bool} {a:Act} {w:World} {n:Nat} (h:Q .normal a w) (hr:(Region.ready md ops l == [])=true:=by exact done_of HT_.out (by kernel_rfl)):wpAnyLast P md ops Q S ds n l a w:=done_ hr h
end
theorem sm_ {p q:Prop} (h:q) (f:p ↔ q:=by simp only [Act.put,List.setIfInBounds_toArray,List.set_cons_zero,List.set_cons_succ,i64_w,i32_w];exact Iff.rfl):p:=f.2 h
theorem am_ {p:Prop} (h:p):Aside0 p:=⟨h⟩
theorem od_ {p:Prop} [Decidable p] (h:decide p=true:=by first|(with_reducible assumption)|assumption):p:=of_decide_eq_true h
section
variable {P:Program} {ops:Array Oper} {Q:Exit->Act->World->Prop} {S:World->Prop} {ds:List Nat} {T:Bool × List (List Nat × List Nat)} {B:List Nat}
theorem sw_ (n:Nat) (S:World->Prop) (ds:List Nat) {ops':Array Oper} (hT:rtab .any ops'=T) (hB:waitsOk T.2 B=true) {id:Nat} {a:Act} {w:World} (hS:S w.drew)
 (h:S w.drew->Aside0 (rtab .any ops=T)->Aside0 (waitsOk T.2 B=true)->wpAnyLast P .any ops Q S ds n (lz_ n 0) a w.drew) (he:ops=ops':=by exact rfl) (hm:P.follows .mixedOrders=true:=by kernel_rfl) (hn:ops.size=n:=by exact rfl) (hl:Array.replicate n false=lz_ n 0:=by exact rfl):(Code.region id ops true).wp P Q a w:=start_ (lz_ n 0) hm hn hl hS (fun s=>h s ⟨he ▸ hT⟩ ⟨hB⟩)
end
theorem kv_ {α:Type} {d:Kd α} {e:Nat} {w w':World} {b:Nat} {ok:Nat->Prop} {v:Value} {xs:List α} (h:d.V e w b ok v xs) (g:d.V e w b ok v xs->d.V e w' b ok v xs:=by intro h_;(with_reducible repeat (first|apply Kd.V_alloc|apply Kd.V_drewN|apply Kd.V_drew));exact h_):d.V e w' b ok v xs:=g h
theorem nil_ {p:Prop} (h:p:=by first|exact Kd.R_nil _ _ _ _ _|exact Kd.N_nil _ _ _ _ _|exact Kd.V_nil _ _ _ _ _|exact Kd.Q_nil _ _ _ _ _|exact Kd.S_nil _ _ _ _ _):p:=h
theorem hx_ {w W W0:World} {o:Obj} {G:Nat->World->Prop} (b:Aside0 (Below w.heap.size w W0)) (h:∀ g w1,Aside0 (w1.heap[g]?=some o)->Aside0 (w.heap.size≤g)->Aside0 (Below w.heap.size w w1)->G g w1) (f:Below w.heap.size w W0->Below w.heap.size w W:=by intro h_;repeat (first|(with_reducible first|exact h_|apply below_alloc|apply pw_below_drewN|apply below_drew1|refine below_set ?_ (Aside0.out (by assumption)))|exact h_)):∀ g,g=W.heap.size->∀ w1,w1.heap[g]?=some o->Below W.heap.size W w1->G g w1:=fun g hg w1 hb hB=>h g w1 ⟨hb⟩ ⟨gz_ hg (below_size (f b.out))⟩ ⟨below_step (f b.out) hB⟩
section
variable {P:Program} {fn:Func} {p q q2:Tmp} {ty:TypeId} {tmps:Array Value} {w0 w:World} {o:Obj} {d:TypeDesc}
theorem rcr_ (g t:Nat) (cs:Array Value) (k:Aside0 (w0.heap[g]?=some o)) (hu:P.underlying ty=some d) (h:fn.results=#[.cell p ty]:=by exact rfl) (hp:tmps.getD p undef = .pointer (some ⟨g,0,none⟩):=by exact rfl) (f:w0.heap[g]?=some o->w.heap[g]?=some (.cells cs t (0,0)):=by intro h_;exact kq_ ⟨h_⟩) (hd:(match d with | .struct _ | .array _ _=>true | _=>false)=true:=by exact rfl) (hi:(P.info? ty).map (·.size)=some cs.size:=by kernel_rfl):(results fn tmps).run P w = .ok (.agg cs) w:=results_cell_row h tmps w g t cs (0,0) d hp (f k.out) hu hd hi
theorem rct_ (g t:Nat) (cs:Array Value) (k:Aside0 (w0.heap[g]?=some o)) (hu:P.underlying ty=some d) (h:fn.results=#[.cell p ty,.tmp q]:=by exact rfl) (hp:tmps.getD p undef = .pointer (some ⟨g,0,none⟩):=by exact rfl) (f:w0.heap[g]?=some o->w.heap[g]?=some (.cells cs t (0,0)):=by intro h_;exact kq_ ⟨h_⟩) (hd:(match d with | .struct _ | .array _ _=>true | _=>false)=true:=by exact rfl) (hi:(P.info? ty).map (·.size)=some cs.size:=by kernel_rfl):(results fn tmps).run P w = .ok (.tuple #[.agg cs,tmps.getD q undef]) w:=results_ct h tmps w g t cs (0,0) d hp (f k.out) hu hd hi
end
section
variable {P:Program} {ops:Array Oper} {rest:List Oper} {o:Oper} {a:Act} {Q:Exit->Act->World->Prop} {W:World}
theorem x116_ (N:Tmp) (h:∀ g,g=W.heap.size->∀ w1,w1.heap[g]?=some (.cells #[.slice none 0 0,.int .i64 0,.bool false] 116 (0,0))->Below W.heap.size W w1->wpList P ops Q rest (a.put o.dst (.pointer (some ⟨g,0,none⟩))) w1) (hd:o.dst=some N:=by exact rfl) (hg:o.guard=none:=by exact rfl) (hr:(execOp a.eval o).run P W = .ok (.value (.pointer (some ⟨W.heap.size,0,none⟩))) (W.alloc (.cells #[.slice none 0 0,.int .i64 0,.bool false] 116 (0,0))):=by first|(go_simp;done)|(go_simp;rfl)):wpList P ops Q (o :: rest) a W:=bx_ N 116 #[.slice none 0 0,.int .i64 0,.bool false] h hd hg hr
theorem x37_ (N:Tmp) (h:∀ g,g=W.heap.size->∀ w1,w1.heap[g]?=some (.cells #[.int .i64 0,.string (⟨#[]⟩:ByteArray)] 37 (0,0))->Below W.heap.size W w1->wpList P ops Q rest (a.put o.dst (.pointer (some ⟨g,0,none⟩))) w1) (hd:o.dst=some N:=by exact rfl) (hg:o.guard=none:=by exact rfl) (hr:(execOp a.eval o).run P W = .ok (.value (.pointer (some ⟨W.heap.size,0,none⟩))) (W.alloc (.cells #[.int .i64 0,.string (⟨#[]⟩:ByteArray)] 37 (0,0))):=by first|(go_simp;done)|(go_simp;rfl)):wpList P ops Q (o :: rest) a W:=bx_ N 37 #[.int .i64 0,.string (⟨#[]⟩:ByteArray)] h hd hg hr
theorem x39_ (N:Tmp) (h:∀ g,g=W.heap.size->∀ w1,w1.heap[g]?=some (.cells #[.slice none 0 0,.int .i64 0,.string (⟨#[]⟩:ByteArray)] 39 (0,0))->Below W.heap.size W w1->wpList P ops Q rest (a.put o.dst (.pointer (some ⟨g,0,none⟩))) w1) (hd:o.dst=some N:=by exact rfl) (hg:o.guard=none:=by exact rfl) (hr:(execOp a.eval o).run P W = .ok (.value (.pointer (some ⟨W.heap.size,0,none⟩))) (W.alloc (.cells #[.slice none 0 0,.int .i64 0,.string (⟨#[]⟩:ByteArray)] 39 (0,0))):=by first|(go_simp;done)|(go_simp;rfl)):wpList P ops Q (o :: rest) a W:=bx_ N 39 #[.slice none 0 0,.int .i64 0,.string (⟨#[]⟩:ByteArray)] h hd hg hr
theorem x41_ (N:Tmp) (h:∀ g,g=W.heap.size->∀ w1,w1.heap[g]?=some (.cells #[.slice none 0 0,.int .i64 0,.string (⟨#[]⟩:ByteArray),.slice none 0 0,.int .i64 0] 41 (0,0))->Below W.heap.size W w1->wpList P ops Q rest (a.put o.dst (.pointer (some ⟨g,0,none⟩))) w1) (hd:o.dst=some N:=by exact rfl) (hg:o.guard=none:=by exact rfl) (hr:(execOp a.eval o).run P W = .ok (.value (.pointer (some ⟨W.heap.size,0,none⟩))) (W.alloc (.cells #[.slice none 0 0,.int .i64 0,.string (⟨#[]⟩:ByteArray),.slice none 0 0,.int .i64 0] 41 (0,0))):=by first|(go_simp;done)|(go_simp;rfl)):wpList P ops Q (o :: rest) a W:=bx_ N 41 #[.slice none 0 0,.int .i64 0,.string (⟨#[]⟩:ByteArray),.slice none 0 0,.int .i64 0] h hd hg hr
theorem x43_ (N:Tmp) (h:∀ g,g=W.heap.size->∀ w1,w1.heap[g]?=some (.cells #[.int .i64 0,.slice none 0 0,.int .i64 0,.string (⟨#[]⟩:ByteArray),.slice none 0 0,.int .i64 0,.int .i64 0,.string (⟨#[]⟩:ByteArray)] 43 (0,0))->Below W.heap.size W w1->wpList P ops Q rest (a.put o.dst (.pointer (some ⟨g,0,none⟩))) w1) (hd:o.dst=some N:=by exact rfl) (hg:o.guard=none:=by exact rfl) (hr:(execOp a.eval o).run P W = .ok (.value (.pointer (some ⟨W.heap.size,0,none⟩))) (W.alloc (.cells #[.int .i64 0,.slice none 0 0,.int .i64 0,.string (⟨#[]⟩:ByteArray),.slice none 0 0,.int .i64 0,.int .i64 0,.string (⟨#[]⟩:ByteArray)] 43 (0,0))):=by first|(go_simp;done)|(go_simp;rfl)):wpList P ops Q (o :: rest) a W:=bx_ N 43 #[.int .i64 0,.slice none 0 0,.int .i64 0,.string (⟨#[]⟩:ByteArray),.slice none 0 0,.int .i64 0,.int .i64 0,.string (⟨#[]⟩:ByteArray)] h hd hg hr
end
end Go.Proofs.YtnlndmoecljicaaGreat
end
section
namespace Go.Proofs.YtnlndmoecljicaaGreat.Q
open Go.Proofs.YtnlndmoecljicaaGreatW.PrintLast Go.Proofs.YtnlndmoecljicaaGreatW.PrintMore Go.Proofs.YtnlndmoecljicaaGreatW.PrintWords Go.RowKit
attribute [local go_sem] max2_int min2_int max_two min_two max_three min_three max_four min_four
set_option maxHeartbeats 8000000
set_option maxRecDepth 100000
def errW:Option Int->Value
 | none=>.nilIface
 | some c=>.iface 0 (.int .i64 c)
theorem errW_none:errW none = .nilIface:=rfl
theorem errW_some (c:Int):errW (some c) = .iface 0 (.int .i64 c):=rfl
theorem info3:(Tryz.prog.info? 3).map (fun i=>(i.zero,i.size,i.bytes))=some (some (.int .i64 0),1,8):=by kernel_rfl
theorem info5:(Tryz.prog.info? 5).map (fun i=>(i.zero,i.size,i.bytes))=some (some (.int .u8 0),1,1):=by kernel_rfl
theorem info9:(Tryz.prog.info? 9).map (fun i=>(i.zero,i.size,i.bytes))=some (some (.string ⟨#[]⟩),1,16):=by kernel_rfl
theorem info37:(Tryz.prog.info? 37).map (fun i=>(i.zero,i.size,i.bytes))=some (some (.agg #[(.int .i64 0),(.string ⟨#[]⟩)]),2,24):=by kernel_rfl
structure S24 where
 f0:Int
 f1:ByteArray
def z24:S24:=⟨(0:Int),(⟨#[]⟩:ByteArray)⟩
def k24:Kd S24:=Kd.iso (Kd.pair (Kd.int .i64) Kd.string) (fun x:S24=>(x.f0,x.f1))
theorem k24_open {w:World} {x:S24} {cs:List Value} (h:k24.K w x cs):cs=[.int .i64 x.f0,.string x.f1]:=by
 obtain ⟨_,_,rfl,rfl,rfl⟩:=h
 exact rfl
def rd_T24 (xs:List S24) (i:Int):S24:=xs.getD i.toNat z24
theorem at_T24 {w:World} {A:Option Addr} {n:Nat} {xs:List S24} (h:Kd.C k24 w A n xs) (i:Int) (h0:0≤i) (h1:i < n):∃ ad ,A=some ad∧w.cell? (ad.add (i.toNat * 2))=some (.int .i64 (rd_T24 xs i).f0)∧w.cell? ⟨(ad.add (i.toNat * 2)).block,(ad.add (i.toNat * 2)).off+1,none⟩=some (.string (rd_T24 xs i).f1):=by
 obtain ⟨ad,c,e,_,hK,hc0⟩:=Kd.C_get h z24 i h0 h1
 have hc:∀ j u,c[j]?=some u->w.cell? (ad.add (i.toNat * 2+j))=some u:=hc0
 obtain rfl:=k24_open hK
 exact ⟨ad,e,hc 0 _ rfl,by rw [← add_field _ _ 1 (by omega)];exact hc 1 _ rfl⟩
structure S37 where
 f0:Int
 f1:ByteArray
def z37:S37:=⟨(0:Int),(⟨#[]⟩:ByteArray)⟩
def k37:Kd S37:=Kd.iso (Kd.pair (Kd.int .i64) Kd.string) (fun x:S37=>(x.f0,x.f1))
theorem k37_open {w:World} {x:S37} {cs:List Value} (h:k37.K w x cs):cs=[.int .i64 x.f0,.string x.f1]:=by
 obtain ⟨_,_,rfl,rfl,rfl⟩:=h
 exact rfl
theorem k37_openM {w:World} {base:Nat} {ok:Nat->Prop} {x:S37} {cs:List Value} (h:k37.M w base ok x cs):cs=[.int .i64 x.f0,.string x.f1]:=by
 obtain ⟨_,_,rfl,rfl,rfl⟩:=h
 exact rfl
theorem k37_mkM (w:World) (base:Nat) (ok:Nat->Prop) (x:S37)  : k37.M w base ok x [.int .i64 x.f0,.string x.f1]:=⟨[.int .i64 x.f0],[.string x.f1],rfl,rfl,rfl⟩
def rd_T37 (xs:List S37) (i:Int):S37:=xs.getD i.toNat z37
theorem at_T37 {w:World} {A:Option Addr} {n:Nat} {xs:List S37} (h:Kd.C k37 w A n xs) (i:Int) (h0:0≤i) (h1:i < n):∃ ad ,A=some ad∧w.cell? (ad.add (i.toNat * 2))=some (.int .i64 (rd_T37 xs i).f0)∧w.cell? ⟨(ad.add (i.toNat * 2)).block,(ad.add (i.toNat * 2)).off+1,none⟩=some (.string (rd_T37 xs i).f1):=by
 obtain ⟨ad,c,e,_,hK,hc0⟩:=Kd.C_get h z37 i h0 h1
 have hc:∀ j u,c[j]?=some u->w.cell? (ad.add (i.toNat * 2+j))=some u:=hc0
 obtain rfl:=k37_open hK
 exact ⟨ad,e,hc 0 _ rfl,by rw [← add_field _ _ 1 (by omega)];exact hc 1 _ rfl⟩
def rd_L5 (xs:List (List ByteArray)) (i:Int):(List ByteArray):=xs.getD i.toNat ([]:List ByteArray)
theorem at_L5 {w:World} {A:Option Addr} {n:Nat} {xs:List (List ByteArray)} (h:Kd.C (Kd.slice 9 Kd.string) w A n xs) (i:Int) (h0:0≤i) (h1:i < n):∃ ad A0 c0,A=some ad∧w.cell? (ad.add i.toNat)=some (.slice A0 (rd_L5 xs i).length c0)∧(rd_L5 xs i).length≤c0∧Kd.string.C w A0 (rd_L5 xs i).length (rd_L5 xs i):=by
 obtain ⟨ad,c,e,_,hK,hc0⟩:=Kd.C_get h ([]:List ByteArray) i h0 h1
 have hc:∀ j u,c[j]?=some u->w.cell? (ad.add (i.toNat * 1+j))=some u:=hc0
 obtain ⟨A0,c0,rfl,l0,g0⟩:=hK
 exact ⟨ad,A0,c0,e,by have hq:=hc 0 _ rfl;rwa [Nat.mul_one,Nat.add_zero] at hq,l0,g0⟩
structure S65 where
 f0:Int
 f1:Int
 f2:Int
 f3:S37
 f4:Int
 f5:(List ByteArray)
structure S39 where
 f0:(List ByteArray)
 f1:S37
structure S41 where
 f0:S39
 f1:(List Int)
 f2:Int
structure S43 where
 f0:Int
 f1:S41
 f2:S37
structure S26 where
 f0:(List ByteArray)
 f1:S24
def k26:Kd S26:=Kd.iso (Kd.pair (Kd.slice 9 Kd.string) k24) (fun x:S26=>(x.f0,x.f1))
theorem k26_open {w:World} {x:S26} {cs:List Value} (h:k26.K w x cs):∃ A0 c0,cs=[.slice A0 x.f0.length c0,.int .i64 x.f1.f0,.string x.f1.f1]∧x.f0.length≤c0∧Kd.string.C w A0 x.f0.length x.f0:=by
 obtain ⟨_,_,rfl,⟨A0,c0,rfl,l0,g0⟩,s1⟩:=h
 obtain rfl:=k24_open s1
 exact ⟨A0,c0,rfl,l0,g0⟩
structure S29 where
 f0:S26
 f1:(List Int)
 f2:Int
def k29:Kd S29:=Kd.iso (Kd.pair k26 (Kd.pair (Kd.slice 5 (Kd.int .u8)) (Kd.int .i64))) (fun x:S29=>(x.f0,x.f1,x.f2))
theorem k29_open {w:World} {x:S29} {cs:List Value} (h:k29.K w x cs):∃ A0 c0 A3 c3,cs=[.slice A0 x.f0.f0.length c0,.int .i64 x.f0.f1.f0,.string x.f0.f1.f1,.slice A3 x.f1.length c3,.int .i64 x.f2]∧x.f0.f0.length≤c0∧Kd.string.C w A0 x.f0.f0.length x.f0.f0∧x.f1.length≤c3∧(Kd.int .u8).C w A3 x.f1.length x.f1:=by
 obtain ⟨_,_,rfl,s0,⟨_,_,rfl,⟨A3,c3,rfl,l3,g3⟩,rfl⟩⟩:=h
 obtain ⟨A0,c0,rfl,l0,g0⟩:=k26_open s0
 exact ⟨A0,c0,A3,c3,rfl,l0,g0,l3,g3⟩
structure S31 where
 f0:Int
 f1:S29
 f2:S24
def k31:Kd S31:=Kd.iso (Kd.pair (Kd.int .i64) (Kd.pair k29 k24)) (fun x:S31=>(x.f0,x.f1,x.f2))
theorem k31_open {w:World} {x:S31} {cs:List Value} (h:k31.K w x cs):∃ A1 c1 A4 c4,cs=[.int .i64 x.f0,.slice A1 x.f1.f0.f0.length c1,.int .i64 x.f1.f0.f1.f0,.string x.f1.f0.f1.f1,.slice A4 x.f1.f1.length c4,.int .i64 x.f1.f2,.int .i64 x.f2.f0,.string x.f2.f1]∧x.f1.f0.f0.length≤c1∧Kd.string.C w A1 x.f1.f0.f0.length x.f1.f0.f0∧x.f1.f1.length≤c4∧(Kd.int .u8).C w A4 x.f1.f1.length x.f1.f1:=by
 obtain ⟨_,_,rfl,rfl,⟨_,_,rfl,s1,s6⟩⟩:=h
 obtain ⟨A1,c1,A4,c4,rfl,l1,g1,l4,g4⟩:=k29_open s1
 obtain rfl:=k24_open s6
 exact ⟨A1,c1,A4,c4,rfl,l1,g1,l4,g4⟩
def spec_l1In.f (a0:Int) (a1:Int) (a2:Int):Option (Bool):=if a0 ≥ a1 then (some (decide (a0≤a2))) else (some false)
theorem spec_l1In.calls (a0:Int) (a1:Int) (a2:Int) (r:Bool) (w:World) (h:spec_l1In.f a0 a1 a2=some r) :
  Calls Tryz.prog 72 #[.int .i64 a0,.int .i64 a1,.int .i64 a2] w fun e w'=>e = .returned (.bool r)∧Drawn0 w w':=by
 have H:(if a0 ≥ a1 then (some (decide (a0≤a2))) else (some false))=some r:=h
 clear h
 replace H:=it_ H;obtain ⟨c4,H⟩|⟨c4,H⟩:=H
 ·have c4b0:decide (a1≤a0)=true:=decide_eq_true c4
  clear c4
  obtain rfl:=Option.some.inj H
  go_enter Tryz.func72,Tryz.ntmps72
  go_wp2
  go_ret
  exact ⟨e1_,dw_⟩
 ·have c4b0:decide (a1≤a0)=false:=decide_eq_false c4
  clear c4
  obtain rfl:=Option.some.inj H
  go_enter Tryz.func72,Tryz.ntmps72
  go_wp2
  go_ret
  exact ⟨e1_,dw_⟩
def impl_inRange.f (a0:Int) (a1:Int) (a2:Int):Option (Bool):=if a0 ≥ a1 then (some (decide (a0≤a2))) else (some false)
theorem impl_inRange.calls (a0:Int) (a1:Int) (a2:Int) (r:Bool) (w:World) (h:impl_inRange.f a0 a1 a2=some r) :
  Calls Tryz.prog 63 #[.int .i64 a0,.int .i64 a1,.int .i64 a2] w fun e w'=>e = .returned (.bool r)∧Drawn0 w w':=by
 have H:(if a0 ≥ a1 then (some (decide (a0≤a2))) else (some false))=some r:=h
 clear h
 replace H:=it_ H;obtain ⟨c4,H⟩|⟨c4,H⟩:=H
 ·have c4b0:decide (a1≤a0)=true:=decide_eq_true c4
  clear c4
  obtain rfl:=Option.some.inj H
  go_enter Tryz.func63,Tryz.ntmps63
  go_wp2
  go_ret
  exact ⟨e1_,dw_⟩
 ·have c4b0:decide (a1≤a0)=false:=decide_eq_false c4
  clear c4
  obtain rfl:=Option.some.inj H
  go_enter Tryz.func63,Tryz.ntmps63
  go_wp2
  go_ret
  exact ⟨e1_,dw_⟩
def laws_szHead.f (a0_0:Int) (a0_1:ByteArray) (a1:Int):Option (Int):=if (wrap64 (a1 - (a0_1.size:Int))) < 0 then (some (-1)) else (some (wrap64 (a1 - (a0_1.size:Int))))
theorem laws_szHead.calls (a0_0:Int) (a0_1:ByteArray) (a1:Int) (r:Int) (w:World) (h:laws_szHead.f a0_0 a0_1 a1=some r) :
  Calls Tryz.prog 38 #[.agg #[.int .i64 a0_0,.string a0_1],.int .i64 a1] w fun e w'=>e = .returned (.int .i64 r)∧Below w.heap.size w w':=by
 have hu24:=Tryz.underlying24
 have HB:=h0_ w
 have H:(if (wrap64 (a1 - (a0_1.size:Int))) < 0 then (some (-1)) else (some (wrap64 (a1 - (a0_1.size:Int)))))=some r:=h
 clear h
 replace H:=itd_ H;obtain ⟨c3b0,H⟩|⟨c3b0,H⟩:=H
 ·obtain rfl:=Option.some.inj H
  go_enter Tryz.func38,Tryz.ntmps38
  go_wp2_with (first|((with_reducible refine gd_ 2 ?_);refine bx_ 2 24 #[.int .i64 a0_0,.string a0_1] (hx_ HB ?_);clear HB;intro gb1 w4 BK1 GW1 HB;have GE1:=GW1;have hz5:=cz2_ BK1))
  go_ret
  exact ⟨e2_,bw_ HB⟩
 ·obtain rfl:=Option.some.inj H
  go_enter Tryz.func38,Tryz.ntmps38
  go_wp2_with (first|((with_reducible refine gd_ 2 ?_);refine bx_ 2 24 #[.int .i64 a0_0,.string a0_1] (hx_ HB ?_);clear HB;intro gb1 w6 BK1 GW1 HB;have GE1:=GW1;have hz7:=cz2_ BK1))
  go_ret
  exact ⟨e2_,bw_ HB⟩
def laws_toHead.f (a0_0:Int) (a0_1:ByteArray):Option (Int × ByteArray):=some (a0_0,a0_1)
theorem laws_toHead.calls (a0_0:Int) (a0_1:ByteArray) (r1:Int) (r2:ByteArray) (w:World) (h:laws_toHead.f a0_0 a0_1=some (r1,r2)) :
  Calls Tryz.prog 42 #[.agg #[.int .i64 a0_0,.string a0_1]] w fun e w'=>e = .returned (.agg #[.int .i64 r1,.string r2])∧Below w.heap.size w w':=by
 have hu24:=Tryz.underlying24
 have hu37:=Tryz.underlying37
 have HB:=h0_ w
 have H:(some (a0_0,a0_1))=some (r1,r2):=h
 clear h
 replace H:=so2_ H;obtain ⟨rfl,rfl⟩:=H
 go_enter Tryz.func42,Tryz.ntmps42
 go_wp2_with (first|((with_reducible refine gd_ 1 ?_);refine bx_ 1 24 #[.int .i64 a0_0,.string a0_1] (hx_ HB ?_);clear HB;intro gb1 w2 BK1 GW1 HB;have GE1:=GW1)|((with_reducible refine gd_ 2 ?_);refine x37_ 2 ?_;intro gb2 hg w3 hbox hb;have BK2:=am_ hbox;have GW2:=gg_ hg HB;have GE2:=GW2;replace HB:=ss_ HB hb;have NB1_2:=nla_ hg BK1;have NB2_1:=nga_ hg BK1;replace BK1:=kl_ BK1 hb;clear hb hbox hg)|((with_reducible refine gd_ 3 ?_);refine x37_ 3 ?_;intro gb3 hg w4 hbox hb;have BK3:=am_ hbox;have GW3:=gg_ hg HB;have GE3:=GW3;replace HB:=ss_ HB hb;have NB1_3:=nla_ hg BK1;have NB3_1:=nga_ hg BK1;replace BK1:=kl_ BK1 hb;have NB2_3:=nla_ hg BK2;have NB3_2:=nga_ hg BK2;replace BK2:=kl_ BK2 hb;clear hb hbox hg;have hnb5:=NB1_2.out;have hnc5:=NB2_1.out;have hnb6:=NB1_3.out;have hnc6:=NB3_1.out;have hz7:=cz2_ BK1;have hnb8:=NB3_2.out;have hnc8:=NB2_3.out;have hz9:=cz2_ BK3;have hz10:=cz2_ BK2))
 refine bodyPost_ret (rcr_ gb2 37 #[.int .i64 a0_0,.string a0_1] BK2 Tryz.underlying37) rfl ?_
 exact ⟨e2_,bw_ HB⟩
def laws_eqHead.f (a0_0:Int) (a0_1:ByteArray) (a1_0:Int) (a1_1:ByteArray):Option (Bool):=if a0_0=a1_0 then (if a0_1.toList=a1_1.toList then (some true) else (none)) else (none)
theorem laws_eqHead.calls (a0_0:Int) (a0_1:ByteArray) (a1_0:Int) (a1_1:ByteArray) (r:Bool) (w:World) (h:laws_eqHead.f a0_0 a0_1 a1_0 a1_1=some r) :
  Calls Tryz.prog 46 #[.agg #[.int .i64 a0_0,.string a0_1],.agg #[.int .i64 a1_0,.string a1_1]] w fun e w'=>e = .returned (.bool r)∧Below w.heap.size w w':=by
 have hu37:=Tryz.underlying37
 have HB:=h0_ w
 have H:(if a0_0=a1_0 then (if a0_1.toList=a1_1.toList then (some true) else (none)) else (none))=some r:=h
 clear h
 replace H:=ip_ H;obtain ⟨c3,H⟩:=H
 have c3b0:(a0_0 == a1_0)=true:=beq_iff_eq.mpr c3
 have c3b1:(a0_0 != a1_0)=false:=bne_eq_false_iff_eq.mpr c3
 clear c3
 replace H:=ip_ H;obtain ⟨c4,H⟩:=H
 have c4b0:(a0_1.toList == a1_1.toList)=true:=beq_iff_eq.mpr c4
 have c4b1:(a0_1.toList != a1_1.toList)=false:=bne_eq_false_iff_eq.mpr c4
 clear c4
 obtain rfl:=Option.some.inj H
 go_enter Tryz.func46,Tryz.ntmps46
 go_wp2_with (first|((with_reducible refine gd_ 2 ?_);refine bx_ 2 37 #[.int .i64 a0_0,.string a0_1] (hx_ HB ?_);clear HB;intro gb1 w5 BK1 GW1 HB;have GE1:=GW1)|((with_reducible refine gd_ 3 ?_);refine bx_ 3 37 #[.int .i64 a1_0,.string a1_1] ?_;intro gb2 hg w6 hbox hb;have BK2:=am_ hbox;have GW2:=gg_ hg HB;have GE2:=GW2;replace HB:=ss_ HB hb;have NB1_2:=nla_ hg BK1;have NB2_1:=nga_ hg BK1;replace BK1:=kl_ BK1 hb;clear hb hbox hg;have hnb7:=NB1_2.out;have hnc7:=NB2_1.out;have hz8:=cz2_ BK1;have hz9:=cz2_ BK2))
 go_ret
 exact ⟨e2_,bw_ HB⟩
def laws_szStringS.l0:Nat->List ByteArray->Int->Int->Option (Int)
 | 0,_,_,_=>none
 | k+1,x0,x1,x5=>if x5 < (x0.length:Int) then (if 0≤x5 then (if (wrap64 (x1 - ((rdOf ByteArray.empty x0 x5).size:Int))) < 0 then (some (-1)) else (laws_szStringS.l0 k x0 (wrap64 (x1 - ((rdOf ByteArray.empty x0 x5).size:Int))) (wrap64 (x5+1)))) else (none)) else (some x1)
def laws_szStringS.f (k:Nat) (l0:List ByteArray) (a1:Int):Option (Int):=if (wrap64 (a1 - (l0.length:Int))) < 0 then (some (-1)) else (laws_szStringS.l0 k l0 (wrap64 (a1 - (l0.length:Int))) 0)
theorem laws_szStringS.calls (k:Nat) (A0:Option Addr) (c0:Nat) (l0:List ByteArray) (a1:Int) (r:Int) (w:World) (hr0:Kd.C Kd.string w A0 l0.length l0) (hc0:l0.length≤c0) (h:laws_szStringS.f k l0 a1=some r) :
  Calls Tryz.prog 106 #[.slice A0 l0.length c0,.int .i64 a1] w fun e w'=>e = .returned (.int .i64 r)∧Drawn0 w w':=by
 have HR0:=am_ hr0
 have HC0:=am_ hc0
 clear hr0 hc0
 have H:(if (wrap64 (a1 - (l0.length:Int))) < 0 then (some (-1)) else (laws_szStringS.l0 k l0 (wrap64 (a1 - (l0.length:Int))) 0))=some r:=h
 clear h
 replace H:=itd_ H;obtain ⟨c3b0,H⟩|⟨c3b0,H⟩:=H
 ·obtain rfl:=Option.some.inj H
  go_enter Tryz.func106,Tryz.ntmps106
  go_wp2
  go_ret
  exact ⟨e1_,dw_⟩
 ·have H':=am_ H
  clear H
  go_enter Tryz.func106,Tryz.ntmps106
  go_wp2
  go_loopg [1,5] k (fun kq v1 v5 w'=>∃ (x1_1:Int) (x5_1:Int),v1 = .int .i64 x1_1∧v5 = .int .i64 x5_1∧Aside0 (laws_szStringS.l0 kq l0 x1_1 x5_1=some r)∧Aside0 (kq≤k)∧Drawn0 w w')
  case atStart => exact ⟨(wrap64 (a1 - (l0.length:Int))),(0),e1_,e1_,H',⟨Nat.le_refl _⟩,dw_⟩
  case round =>
   clear H'
   try clear c3b0
   obtain ⟨x1_1,x5_1,rfl,rfl,HA,HK1,⟨m1,rfl⟩⟩:=hrel
   cases gk with
   | zero=>exact absurd HA.out (by simp [laws_szStringS.l0])
   | succ k1 =>
    have H:=HA.out
    clear HA
    simp only [laws_szStringS.l0] at H
    replace H:=itd_ H;obtain ⟨c4b0,H⟩|⟨c4b0,H⟩:=H
    ·replace H:=ipd_ H;obtain ⟨c5b0,H⟩:=H
     replace H:=itd_ H;obtain ⟨c6b0,H⟩|⟨c6b0,H⟩:=H
     ·obtain rfl:=Option.some.inj H
      have p601:0≤(x5_1:Int):=od_
      have q1:x5_1 < (l0.length:Int):=od_
      obtain ⟨ad1,e601,hx1_0⟩:=Kd.at_string HR0.out x5_1 p601 q1
      cases e601
      replace p601:=eq_true p601
      replace q1:=eq_true q1
      go_wp2
      go_ret
      exact ⟨e1_,dw_⟩
     ·have H':=am_ H
      clear H
      have p601:0≤(x5_1:Int):=od_
      have q1:x5_1 < (l0.length:Int):=od_
      obtain ⟨ad1,e601,hx1_0⟩:=Kd.at_string HR0.out x5_1 p601 q1
      cases e601
      replace p601:=eq_true p601
      replace q1:=eq_true q1
      go_wp2
      go_roundg k1
      case measure => have:=HK1.out;omega
      case rel => exact ⟨(wrap64 (x1_1 - ((rdOf ByteArray.empty l0 x5_1).size:Int))),(wrap64 (x5_1+1)),e1_,e1_,H',⟨by have:=HK1.out;omega⟩,dw_⟩
    ·obtain rfl:=Option.some.inj H
     go_wp2
     go_ret
     exact ⟨e1_,dw_⟩
def laws_toStringS.l0:Nat->List ByteArray->List ByteArray->Int->Option (List ByteArray)
 | 0,_,_,_=>none
 | k+1,x0,x3,x4=>if x4 < (x0.length:Int) then (if 0≤x4 then (if x4 < (x3.length:Int) then (laws_toStringS.l0 k x0 (x3.set (x4:Int).toNat (rdOf ByteArray.empty x0 x4)) (wrap64 (x4+1))) else (none)) else (none)) else (some x3)
def laws_toStringS.f (k:Nat) (l0:List ByteArray):Option (List ByteArray):=if 0≤(l0.length:Int) then (if ((l0.length:Int):Int).toNat≤17592186044416 then (laws_toStringS.l0 k l0 (List.replicate ((l0.length:Int):Int).toNat (⟨#[]⟩:ByteArray)) 0) else (none)) else (none)
theorem laws_toStringS.calls (k:Nat) (A0:Option Addr) (c0:Nat) (l0:List ByteArray) (r:List ByteArray) (w:World) (hr0:Kd.C Kd.string w A0 l0.length l0) (hc0:l0.length≤c0) (h:laws_toStringS.f k l0=some r) :
  Calls Tryz.prog 112 #[.slice A0 l0.length c0] w fun e w'=>∃ v0_:Value,e = .returned (v0_)∧Kd.R Kd.string 9 w' w.heap.size (fun _=>True) v0_ r∧Below w.heap.size w w':=by
 have HR0:=am_ hr0
 have HC0:=am_ hc0
 clear hr0 hc0
 have HB:=h0_ w
 have H:(if 0≤(l0.length:Int) then (if ((l0.length:Int):Int).toNat≤17592186044416 then (laws_toStringS.l0 k l0 (List.replicate ((l0.length:Int):Int).toNat (⟨#[]⟩:ByteArray)) 0) else (none)) else (none))=some r:=h
 clear h
 replace H:=ip_ H;obtain ⟨c2,H⟩:=H
 have c2b0:=eq_true c2
 have c2b1:=decide_eq_true c2
 clear c2
 replace H:=ip_ H;obtain ⟨c3,H⟩:=H
 have c3b0:=eq_true c3
 have c3b1:=decide_eq_true c3
 clear c3
 obtain ⟨y601,hy1⟩:∃ y_:List ByteArray,y_=(List.replicate ((l0.length:Int):Int).toNat (⟨#[]⟩:ByteArray)):=⟨_,rfl⟩
 replace H:(laws_toStringS.l0 k l0 y601 0)=some r:=yh_ hy1 H
 have Ny1:=am_ hy1
 clear hy1
 have H':=am_ H
 clear H
 go_enter Tryz.func112,Tryz.ntmps112
 go_wp2_with (first|((with_reducible refine gd_ 7 ?_);refine Kd.R_make Kd.string _ 9 rfl (N:=7) rfl 22 _ _ rfl (l0.length:Int) rfl rfl Tryz.underlying22 (.string ⟨#[]⟩) 16 info9 rfl (by decide) (by omega) (⟨#[]⟩:ByteArray) (ok:=fun _=>True) (okp:=fun _=>True) rfl (fun _ hk=>hk) trivial (od_) (Nat.le_trans (Nat.mul_le_mul_right _ (od_:(l0.length:Int).toNat≤17592186044416)) (by omega)) (Below.refl _ _) (Nat.le_refl _) ?_;intro v2 w4 ho5 hb hg_ hnew_;clear hg_ hnew_;(first|rw [← Ny1.out] at ho5|(simp only [Int.reduceToNat] at ho5;rw [← Ny1.out] at ho5));have HO3:=rlo_ ho5 HB;replace HB:=ss_ HB hb;clear hb ho5))
 go_loopg [4] k (fun kq v4 w'=>∃ (x3_1:List ByteArray) (x4_1:Int),v4 = .int .i64 x4_1∧Aside0 (laws_toStringS.l0 kq l0 x3_1 x4_1=some r)∧Aside0 (kq≤k)∧Aside0 (Kd.R Kd.string 9 w' w.heap.size (fun _=>True) v2 x3_1)∧Aside0 (Below w.heap.size w w'))
 case atStart => exact ⟨(y601),(0),e1_,H',⟨Nat.le_refl _⟩,⟨kr_ HO3.out⟩,⟨bw_ HB⟩⟩
 case round =>
  clear H'
  try clear c2
  try clear c2b0
  try clear c2b1
  try clear c3
  try clear c3b0
  try clear c3b1
  obtain ⟨x3_1,x4_1,rfl,HA,HK1,HO_3,HB⟩:=hrel
  cases gk with
  | zero=>exact absurd HA.out (by simp [laws_toStringS.l0])
  | succ k1 =>
   have H:=HA.out
   clear HA
   simp only [laws_toStringS.l0] at H
   replace H:=itd_ H;obtain ⟨c6b0,H⟩|⟨c6b0,H⟩:=H
   ·replace H:=ipd_ H;obtain ⟨c7b0,H⟩:=H
    replace H:=ipd_ H;obtain ⟨c8b0,H⟩:=H
    obtain ⟨y605,hy5⟩:∃ y_:List ByteArray,y_=(x3_1.set (x4_1:Int).toNat (rdOf ByteArray.empty l0 x4_1)):=⟨_,rfl⟩
    replace H:(laws_toStringS.l0 k1 l0 y605 (wrap64 (x4_1+1)))=some r:=yh_ hy5 H
    have Ny5:=am_ hy5
    clear hy5
    have H':=am_ H
    clear H
    have p604:0≤(x4_1:Int):=od_
    have q4:x4_1 < (l0.length:Int):=od_
    obtain ⟨ad4,e4,hx4_0⟩:=Kd.at_string HR0.out x4_1 p604 q4
    cases e4
    replace hx4_0:=cw_ HB hx4_0
    replace p604:=eq_true p604
    replace q4:=eq_true q4
    have p9:0≤(x4_1:Int):=od_
    have q9:(x4_1:Int) < ((x3_1.length:Int):Int):=od_
    obtain ⟨go9,co9,eo9,gb9,gl9,cl9,HG9⟩:=Kd.R_form HO_3.out (by omega)
    (first | cases eo9|(injection eo9 with ea_ en_ ec_;(first|subst ea_|(injection ea_ with ea_;subst ea_));subst ec_;clear en_))
    have GB9:=am_ gb9
    have GG9:=am_ HG9
    clear gb9 gl9 HG9
    obtain ⟨hx9_0,hf9_0⟩:=Kd.R_celln (⟨#[]⟩:ByteArray) HO_3.out (x4_1:Int) p9 q9
    replace p9:=eq_true p9
    replace q9:=eq_true q9
    have HP10:=Kd.R_putg HO_3.out (x4_1:Int) (rdOf ByteArray.empty l0 x4_1)
    go_wp2_with (first|((with_reducible refine gate_store (t:=9) (p:=20) rfl ?_);refine store_event (t:=9) (p:=20) (v:=?vo_w11) (w1:=(wr.setCell ⟨go9,(x4_1:Int).toNat,none⟩ (.string (rdOf ByteArray.empty l0 x4_1)))) ?hg ?ho ?hn ?hr ?_;(case ho=>rfl);(case hg=>rfl);(case hn=>rfl);(case hr=>first|(go_simp;done)|(go_simp;rfl));intro w11 hw;have hg:wr.grownBy w11 (some go9):=(by rw [hw];exact HP10.2);have hp_:Kd.R Kd.string 9 w11 w.heap.size (fun _=>True) (.slice (some ⟨go9,0,none⟩) x3_1.length co9) y605:=(by rw [hw,Ny5.out];exact HP10.1);clear HP10;replace HO_3:=am_ hp_;replace HB:=am_ ((by rw [hw];exact below_set (HB.out) GB9.out:Below w.heap.size w w11));clear hg hw hp_))
    go_roundg k1
    case measure => have:=HK1.out;omega
    case rel => exact ⟨(y605),(wrap64 (x4_1+1)),e1_,H',⟨by have:=HK1.out;omega⟩,⟨kr_ HO_3.out⟩,⟨bw_ HB⟩⟩
   ·obtain rfl:=Option.some.inj H
    go_wp2
    go_ret
    exact ⟨_,e2_,kr_ HO_3.out,bw_ HB⟩
def laws_eqStringS.l0:Nat->List ByteArray->List ByteArray->Int->Option (Bool)
 | 0,_,_,_=>none
 | k+1,x0,x1,x5=>if x5 < (x0.length:Int) then (if 0≤x5 then (if x5 < (x1.length:Int) then (if (rdOf ByteArray.empty x0 x5).toList=(rdOf ByteArray.empty x1 x5).toList then (laws_eqStringS.l0 k x0 x1 (wrap64 (x5+1))) else (none)) else (none)) else (none)) else (some true)
def laws_eqStringS.f (k:Nat) (l0:List ByteArray) (l1:List ByteArray):Option (Bool):=if (l0.length:Int)=(l1.length:Int) then (laws_eqStringS.l0 k l0 l1 0) else (none)
theorem laws_eqStringS.calls (k:Nat) (A0:Option Addr) (c0:Nat) (l0:List ByteArray) (A1:Option Addr) (c1:Nat) (l1:List ByteArray) (r:Bool) (w:World) (hr0:Kd.C Kd.string w A0 l0.length l0) (hc0:l0.length≤c0) (hr1:Kd.C Kd.string w A1 l1.length l1) (hc1:l1.length≤c1) (h:laws_eqStringS.f k l0 l1=some r) :
  Calls Tryz.prog 81 #[.slice A0 l0.length c0,.slice A1 l1.length c1] w fun e w'=>e = .returned (.bool r)∧Drawn0 w w':=by
 have HR0:=am_ hr0
 have HC0:=am_ hc0
 clear hr0 hc0
 have HR1:=am_ hr1
 have HC1:=am_ hc1
 clear hr1 hc1
 have H:(if (l0.length:Int)=(l1.length:Int) then (laws_eqStringS.l0 k l0 l1 0) else (none))=some r:=h
 clear h
 replace H:=ip_ H;obtain ⟨c3,H⟩:=H
 have c3b0:((l0.length:Int) == (l1.length:Int))=true:=beq_iff_eq.mpr c3
 have c3b1:((l0.length:Int) != (l1.length:Int))=false:=bne_eq_false_iff_eq.mpr c3
 have c3b2:(l0.length == l1.length)=true:=by first|simpa using c3|(simp at c3 ⊢;omega)
 clear c3
 have H':=am_ H
 clear H
 go_enter Tryz.func81,Tryz.ntmps81
 go_wp2
 repeat (go_quiet (fail);try go_wp2)
 go_loopg [5] k (fun kq v5 w'=>∃ (x5_1:Int),v5 = .int .i64 x5_1∧Aside0 (laws_eqStringS.l0 kq l0 l1 x5_1=some r)∧Aside0 (kq≤k)∧Drawn0 w w')
 case atStart => exact ⟨(0),e1_,H',⟨Nat.le_refl _⟩,dw_⟩
 case round =>
  clear H'
  try clear c3
  try clear c3b0
  try clear c3b1
  try clear c3b2
  obtain ⟨x5_1,rfl,HA,HK1,⟨m1,rfl⟩⟩:=hrel
  cases gk with
  | zero=>exact absurd HA.out (by simp [laws_eqStringS.l0])
  | succ k1 =>
   have H:=HA.out
   clear HA
   simp only [laws_eqStringS.l0] at H
   replace H:=itd_ H;obtain ⟨c4b0,H⟩|⟨c4b0,H⟩:=H
   ·replace H:=ipd_ H;obtain ⟨c5b0,H⟩:=H
    replace H:=ipd_ H;obtain ⟨c6b0,H⟩:=H
    replace H:=ip_ H;obtain ⟨c7,H⟩:=H
    have c7b0:((rdOf ByteArray.empty l0 x5_1).toList == (rdOf ByteArray.empty l1 x5_1).toList)=true:=beq_iff_eq.mpr c7
    have c7b1:((rdOf ByteArray.empty l0 x5_1).toList != (rdOf ByteArray.empty l1 x5_1).toList)=false:=bne_eq_false_iff_eq.mpr c7
    clear c7
    have H':=am_ H
    clear H
    have p601:0≤(x5_1:Int):=od_
    have q1:x5_1 < (l0.length:Int):=od_
    obtain ⟨ad1,e601,hx1_0⟩:=Kd.at_string HR0.out x5_1 p601 q1
    cases e601
    replace p601:=eq_true p601
    replace q1:=eq_true q1
    have p602:0≤(x5_1:Int):=od_
    have q602:x5_1 < (l1.length:Int):=od_
    obtain ⟨ad2,e602,hx2_0⟩:=Kd.at_string HR1.out x5_1 p602 q602
    cases e602
    replace p602:=eq_true p602
    replace q602:=eq_true q602
    go_wp2
    repeat (go_quiet (fail);try go_wp2)
    go_roundg k1
    case measure => have:=HK1.out;omega
    case rel => exact ⟨(wrap64 (x5_1+1)),e1_,H',⟨by have:=HK1.out;omega⟩,dw_⟩
   ·obtain rfl:=Option.some.inj H
    go_wp2
    repeat (go_quiet (fail);try go_wp2)
    go_ret
    exact ⟨e1_,dw_⟩
def laws_szLog.f (k:Nat) (l0_0:List ByteArray) (a0_1:Int) (a0_2:ByteArray) (a1:Int):Option (Int):=(laws_szStringS.f k l0_0 a1).bind fun t602=>(if t602 < 0 then (some (-1)) else ((laws_szHead.f a0_1 a0_2 t602).bind fun t3=>(if t3 < 0 then (some (-1)) else (some t3))))
theorem laws_szLog.calls (k:Nat) (A0_0:Option Addr) (c0_0:Nat) (l0_0:List ByteArray) (a0_1:Int) (a0_2:ByteArray) (a1:Int) (r:Int) (w:World) (hr0_0:Kd.C Kd.string w A0_0 l0_0.length l0_0) (hc0_0:l0_0.length≤c0_0) (h:laws_szLog.f k l0_0 a0_1 a0_2 a1=some r) :
  Calls Tryz.prog 70 #[.agg #[.slice A0_0 l0_0.length c0_0,.int .i64 a0_1,.string a0_2],.int .i64 a1] w fun e w'=>e = .returned (.int .i64 r)∧Below w.heap.size w w':=by
 have hu26:=Tryz.underlying26
 have hu24:=Tryz.underlying24
 have HR0_0:=am_ hr0_0
 have HC0_0:=am_ hc0_0
 clear hr0_0 hc0_0
 have HB:=h0_ w
 have H:((laws_szStringS.f k l0_0 a1).bind fun t602=>(if t602 < 0 then (some (-1)) else ((laws_szHead.f a0_1 a0_2 t602).bind fun t3=>(if t3 < 0 then (some (-1)) else (some t3)))))=some r:=h
 clear h
 replace H:=bi_ H;obtain ⟨t602,A3,H⟩:=H
 replace H:=itd_ H;obtain ⟨c4b0,H⟩|⟨c4b0,H⟩:=H
 ·obtain rfl:=Option.some.inj H
  go_enter Tryz.func70,Tryz.ntmps70
  go_wp2_with (first|((with_reducible refine gd_ 2 ?_);refine bx_ 2 26 #[.slice A0_0 l0_0.length c0_0,.int .i64 a0_1,.string a0_2] (hx_ HB ?_);clear HB;intro gb1 w5 BK1 GW1 HB;have GE1:=GW1;have hz6:=cz3_ BK1)|((with_reducible refine gq_ 106 8 ?_);refine gc_ 8 Tryz.func106 (laws_szStringS.calls k _ _ l0_0 a1 t602 _ (cb_ HR0_0 HB) HC0_0.out A3.out) ?_;rintro e w' ⟨rfl,⟨nd,rfl⟩⟩;refine ⟨_,rfl,?_⟩))
  go_ret
  exact ⟨e2_,bw_ HB⟩
 ·replace H:=bi_ H;obtain ⟨t3,A7,H⟩:=H
  replace H:=itd_ H;obtain ⟨c8b0,H⟩|⟨c8b0,H⟩:=H
  ·obtain rfl:=Option.some.inj H
   go_enter Tryz.func70,Tryz.ntmps70
   go_wp2_with (first|((with_reducible refine gd_ 2 ?_);refine bx_ 2 26 #[.slice A0_0 l0_0.length c0_0,.int .i64 a0_1,.string a0_2] (hx_ HB ?_);clear HB;intro gb1 w9 BK1 GW1 HB;have GE1:=GW1;have hz10:=cz3_ BK1)|((with_reducible refine gq_ 106 8 ?_);refine gc_ 8 Tryz.func106 (laws_szStringS.calls k _ _ l0_0 a1 t602 _ (cb_ HR0_0 HB) HC0_0.out A3.out) ?_;rintro e w' ⟨rfl,⟨nd,rfl⟩⟩;refine ⟨_,rfl,?_⟩)|((with_reducible refine gq_ 38 14 ?_);refine gc_ 14 Tryz.func38 (laws_szHead.calls a0_1 a0_2 t602 t3 _ A7.out) ?_;rintro e w11 ⟨rfl,hb⟩;refine ⟨_,rfl,?_⟩;replace BK1:=kl_ BK1 hb;replace HB:=ss_ HB hb;clear hb))
   go_ret
   exact ⟨e2_,bw_ HB⟩
  ·obtain rfl:=Option.some.inj H
   go_enter Tryz.func70,Tryz.ntmps70
   go_wp2_with (first|((with_reducible refine gd_ 2 ?_);refine bx_ 2 26 #[.slice A0_0 l0_0.length c0_0,.int .i64 a0_1,.string a0_2] (hx_ HB ?_);clear HB;intro gb1 w12 BK1 GW1 HB;have GE1:=GW1;have hz13:=cz3_ BK1)|((with_reducible refine gq_ 106 8 ?_);refine gc_ 8 Tryz.func106 (laws_szStringS.calls k _ _ l0_0 a1 t602 _ (cb_ HR0_0 HB) HC0_0.out A3.out) ?_;rintro e w' ⟨rfl,⟨nd,rfl⟩⟩;refine ⟨_,rfl,?_⟩)|((with_reducible refine gq_ 38 14 ?_);refine gc_ 14 Tryz.func38 (laws_szHead.calls a0_1 a0_2 t602 t3 _ A7.out) ?_;rintro e w14 ⟨rfl,hb⟩;refine ⟨_,rfl,?_⟩;replace BK1:=kl_ BK1 hb;replace HB:=ss_ HB hb;clear hb))
   go_ret
   exact ⟨e2_,bw_ HB⟩
def laws_toLog.f (k:Nat) (l0_0:List ByteArray) (a0_1:Int) (a0_2:ByteArray):Option (List ByteArray × Int × ByteArray):=(laws_toStringS.f k l0_0).bind fun t4=>((laws_toHead.f a0_1 a0_2).bind fun bt7=>(some (t4,bt7.1,bt7.2)))
theorem laws_toLog.calls (k:Nat) (A0_0:Option Addr) (c0_0:Nat) (l0_0:List ByteArray) (a0_1:Int) (a0_2:ByteArray) (r1:List ByteArray) (r2:Int) (r3:ByteArray) (w:World) (hr0_0:Kd.C Kd.string w A0_0 l0_0.length l0_0) (hc0_0:l0_0.length≤c0_0) (h:laws_toLog.f k l0_0 a0_1 a0_2=some (r1,r2,r3)) :
  Calls Tryz.prog 77 #[.agg #[.slice A0_0 l0_0.length c0_0,.int .i64 a0_1,.string a0_2]] w fun e w'=>∃ v0_:Value,e = .returned (.agg #[v0_,.int .i64 r2,.string r3])∧Kd.R Kd.string 9 w' w.heap.size (fun _=>True) v0_ r1∧Below w.heap.size w w':=by
 have hu26:=Tryz.underlying26
 have hu39:=Tryz.underlying39
 have hu24:=Tryz.underlying24
 have hu37:=Tryz.underlying37
 have HR0_0:=am_ hr0_0
 have HC0_0:=am_ hc0_0
 clear hr0_0 hc0_0
 have HB:=h0_ w
 have H:((laws_toStringS.f k l0_0).bind fun t4=>((laws_toHead.f a0_1 a0_2).bind fun bt7=>(some (t4,bt7.1,bt7.2))))=some (r1,r2,r3):=h
 clear h
 replace H:=bi_ H;obtain ⟨t4,A2,H⟩:=H
 replace H:=bi_ H;obtain ⟨⟨t7,t8⟩,A3,H⟩:=H
 dsimp only at H
 replace H:=so3_ H;obtain ⟨rfl,rfl,rfl⟩:=H
 go_enter Tryz.func77,Tryz.ntmps77
 go_wp2_with (first|((with_reducible refine gd_ 1 ?_);refine bx_ 1 26 #[.slice A0_0 l0_0.length c0_0,.int .i64 a0_1,.string a0_2] (hx_ HB ?_);clear HB;intro gb1 w4 BK1 GW1 HB;have GE1:=GW1)|((with_reducible refine gd_ 2 ?_);refine x39_ 2 ?_;intro gb2 hg w5 hbox hb;have BK2:=am_ hbox;have GW2:=gg_ hg HB;have GE2:=GW2;replace HB:=ss_ HB hb;have NB1_2:=nla_ hg BK1;have NB2_1:=nga_ hg BK1;replace BK1:=kl_ BK1 hb;clear hb hbox hg)|((with_reducible refine gd_ 3 ?_);refine x39_ 3 ?_;intro gb3 hg w6 hbox hb;have BK3:=am_ hbox;have GW3:=gg_ hg HB;have GE3:=GW3;replace HB:=ss_ HB hb;have NB1_3:=nla_ hg BK1;have NB3_1:=nga_ hg BK1;replace BK1:=kl_ BK1 hb;have NB2_3:=nla_ hg BK2;have NB3_2:=nga_ hg BK2;replace BK2:=kl_ BK2 hb;clear hb hbox hg;have hnb7:=NB1_2.out;have hnc7:=NB2_1.out;have hnb8:=NB1_3.out;have hnc8:=NB3_1.out;have hz9:=cz3_ BK1)|((with_reducible refine gq_ 112 6 ?_);refine gc_ 6 Tryz.func112 (laws_toStringS.calls k _ _ l0_0 t4 _ (cb_ HR0_0 HB) HC0_0.out A2.out) ?_;rintro e w10 ⟨v5,rfl,ho0,hb⟩;refine ⟨_,rfl,?_⟩;have HO6:=rlo_ ho0 HB;replace BK1:=kl_ BK1 hb;replace BK2:=kl_ BK2 hb;replace BK3:=kl_ BK3 hb;replace HB:=ss_ HB hb;clear hb ho0;obtain ⟨Ao11,co11,eo11⟩:=Kd.R_slice HO6.out;subst eo11;have hnb12:=NB3_2.out;have hnc12:=NB2_3.out;have hz13:=cz3_ BK3;have hz14:=cz3_ BK1)|((with_reducible refine gq_ 42 10 ?_);refine gc_ 10 Tryz.func42 (laws_toHead.calls a0_1 a0_2 t7 t8 _ A3.out) ?_;rintro e w15 ⟨rfl,hb⟩;refine ⟨_,rfl,?_⟩;replace HO6:=rbf_ HO6 BK3 hb;replace BK1:=kp_ BK1 hb;replace BK2:=kp_ BK2 hb;replace BK3:=kp_ BK3 hb;replace HB:=ss_ HB hb;clear hb;have hz16:=cz3_ BK3;have hz17:=cz3_ BK2))
 refine bodyPost_ret (rcr_ gb2 39 #[.slice Ao11 t4.length co11,.int .i64 t7,.string t8] BK2 Tryz.underlying39) rfl ?_
 exact ⟨_,e2_,kfm2_ HO6 BK3 BK2,bw_ HB⟩
def laws_eqLog.f (k:Nat) (l0_0:List ByteArray) (a0_1:Int) (a0_2:ByteArray) (l1_0:List ByteArray) (a1_1:Int) (a1_2:ByteArray):Option (Bool):=(laws_eqStringS.f k l0_0 l1_0).bind fun t3=>(if t3=true then ((laws_eqHead.f a0_1 a0_2 a1_1 a1_2).bind fun t4=>(if t4=true then (some true) else (none))) else (none))
theorem laws_eqLog.calls (k:Nat) (A0_0:Option Addr) (c0_0:Nat) (l0_0:List ByteArray) (a0_1:Int) (a0_2:ByteArray) (A1_0:Option Addr) (c1_0:Nat) (l1_0:List ByteArray) (a1_1:Int) (a1_2:ByteArray) (r:Bool) (w:World) (hr0_0:Kd.C Kd.string w A0_0 l0_0.length l0_0) (hc0_0:l0_0.length≤c0_0) (hr1_0:Kd.C Kd.string w A1_0 l1_0.length l1_0) (hc1_0:l1_0.length≤c1_0) (h:laws_eqLog.f k l0_0 a0_1 a0_2 l1_0 a1_1 a1_2=some r) :
  Calls Tryz.prog 82 #[.agg #[.slice A0_0 l0_0.length c0_0,.int .i64 a0_1,.string a0_2],.agg #[.slice A1_0 l1_0.length c1_0,.int .i64 a1_1,.string a1_2]] w fun e w'=>e = .returned (.bool r)∧Below w.heap.size w w':=by
 have hu39:=Tryz.underlying39
 have hu37:=Tryz.underlying37
 have HR0_0:=am_ hr0_0
 have HC0_0:=am_ hc0_0
 clear hr0_0 hc0_0
 have HR1_0:=am_ hr1_0
 have HC1_0:=am_ hc1_0
 clear hr1_0 hc1_0
 have HB:=h0_ w
 have H:((laws_eqStringS.f k l0_0 l1_0).bind fun t3=>(if t3=true then ((laws_eqHead.f a0_1 a0_2 a1_1 a1_2).bind fun t4=>(if t4=true then (some true) else (none))) else (none)))=some r:=h
 clear h
 replace H:=bi_ H;obtain ⟨t3,A3,H⟩:=H
 replace H:=ipb_ H;obtain ⟨rfl,H⟩:=H
 replace H:=bi_ H;obtain ⟨t4,A5,H⟩:=H
 replace H:=ipb_ H;obtain ⟨rfl,H⟩:=H
 obtain rfl:=Option.some.inj H
 go_enter Tryz.func82,Tryz.ntmps82
 go_wp2_with (first|((with_reducible refine gd_ 2 ?_);refine bx_ 2 39 #[.slice A0_0 l0_0.length c0_0,.int .i64 a0_1,.string a0_2] (hx_ HB ?_);clear HB;intro gb1 w7 BK1 GW1 HB;have GE1:=GW1)|((with_reducible refine gd_ 3 ?_);refine bx_ 3 39 #[.slice A1_0 l1_0.length c1_0,.int .i64 a1_1,.string a1_2] ?_;intro gb2 hg w8 hbox hb;have BK2:=am_ hbox;have GW2:=gg_ hg HB;have GE2:=GW2;replace HB:=ss_ HB hb;have NB1_2:=nla_ hg BK1;have NB2_1:=nga_ hg BK1;replace BK1:=kl_ BK1 hb;clear hb hbox hg;have hnb9:=NB1_2.out;have hnc9:=NB2_1.out;have hz10:=cz3_ BK1;have hz11:=cz3_ BK2)|((with_reducible refine gq_ 81 9 ?_);refine gc_ 9 Tryz.func81 (laws_eqStringS.calls k _ _ l0_0 _ _ l1_0 true _ (cb_ HR0_0 HB) HC0_0.out (cb_ HR1_0 HB) HC1_0.out A3.out) ?_;rintro e w' ⟨rfl,⟨nd,rfl⟩⟩;refine ⟨_,rfl,?_⟩)|((with_reducible refine gq_ 46 15 ?_);refine gc_ 15 Tryz.func46 (laws_eqHead.calls a0_1 a0_2 a1_1 a1_2 true _ A5.out) ?_;rintro e w12 ⟨rfl,hb⟩;refine ⟨_,rfl,?_⟩;replace BK1:=kl_ BK1 hb;replace BK2:=kl_ BK2 hb;replace HB:=ss_ HB hb;clear hb))
 go_ret
 exact ⟨e2_,bw_ HB⟩
def laws_eqByteS.l0:Nat->List Int->List Int->Int->Option (Bool)
 | 0,_,_,_=>none
 | k+1,x0,x1,x5=>if x5 < (x0.length:Int) then (if 0≤x5 then (if x5 < (x1.length:Int) then (if (rd x0 x5)=(rd x1 x5) then (laws_eqByteS.l0 k x0 x1 (wrap64 (x5+1))) else (none)) else (none)) else (none)) else (some true)
def laws_eqByteS.f (k:Nat) (l0:List Int) (l1:List Int):Option (Bool):=if (l0.length:Int)=(l1.length:Int) then (laws_eqByteS.l0 k l0 l1 0) else (none)
theorem laws_eqByteS.calls (k:Nat) (A0:Option Addr) (c0:Nat) (l0:List Int) (A1:Option Addr) (c1:Nat) (l1:List Int) (r:Bool) (w:World) (hr0:Kd.C (Kd.int .u8) w A0 l0.length l0) (hc0:l0.length≤c0) (hr1:Kd.C (Kd.int .u8) w A1 l1.length l1) (hc1:l1.length≤c1) (h:laws_eqByteS.f k l0 l1=some r) :
  Calls Tryz.prog 83 #[.slice A0 l0.length c0,.slice A1 l1.length c1] w fun e w'=>e = .returned (.bool r)∧Drawn0 w w':=by
 have HR0:=am_ hr0
 have HC0:=am_ hc0
 clear hr0 hc0
 have HR1:=am_ hr1
 have HC1:=am_ hc1
 clear hr1 hc1
 have H:(if (l0.length:Int)=(l1.length:Int) then (laws_eqByteS.l0 k l0 l1 0) else (none))=some r:=h
 clear h
 replace H:=ip_ H;obtain ⟨c3,H⟩:=H
 have c3b0:((l0.length:Int) == (l1.length:Int))=true:=beq_iff_eq.mpr c3
 have c3b1:((l0.length:Int) != (l1.length:Int))=false:=bne_eq_false_iff_eq.mpr c3
 have c3b2:(l0.length == l1.length)=true:=by first|simpa using c3|(simp at c3 ⊢;omega)
 clear c3
 have H':=am_ H
 clear H
 go_enter Tryz.func83,Tryz.ntmps83
 go_wp2
 repeat (go_quiet (fail);try go_wp2)
 go_loopg [5] k (fun kq v5 w'=>∃ (x5_1:Int),v5 = .int .i64 x5_1∧Aside0 (laws_eqByteS.l0 kq l0 l1 x5_1=some r)∧Aside0 (kq≤k)∧Drawn0 w w')
 case atStart => exact ⟨(0),e1_,H',⟨Nat.le_refl _⟩,dw_⟩
 case round =>
  clear H'
  try clear c3
  try clear c3b0
  try clear c3b1
  try clear c3b2
  obtain ⟨x5_1,rfl,HA,HK1,⟨m1,rfl⟩⟩:=hrel
  cases gk with
  | zero=>exact absurd HA.out (by simp [laws_eqByteS.l0])
  | succ k1 =>
   have H:=HA.out
   clear HA
   simp only [laws_eqByteS.l0] at H
   replace H:=itd_ H;obtain ⟨c4b0,H⟩|⟨c4b0,H⟩:=H
   ·replace H:=ipd_ H;obtain ⟨c5b0,H⟩:=H
    replace H:=ipd_ H;obtain ⟨c6b0,H⟩:=H
    replace H:=ip_ H;obtain ⟨c7,H⟩:=H
    have c7b0:((rd l0 x5_1) == (rd l1 x5_1))=true:=beq_iff_eq.mpr c7
    have c7b1:((rd l0 x5_1) != (rd l1 x5_1))=false:=bne_eq_false_iff_eq.mpr c7
    clear c7
    have H':=am_ H
    clear H
    obtain ⟨ad1,e601,hx1_0,p601,q1⟩:=ai_ HR0.out x5_1
    cases e601
    obtain ⟨ad2,e602,hx2_0,p602,q602⟩:=ai_ HR1.out x5_1
    cases e602
    go_wp2
    repeat (go_quiet (fail);try go_wp2)
    go_roundg k1
    case measure => have:=HK1.out;omega
    case rel => exact ⟨(wrap64 (x5_1+1)),e1_,H',⟨by have:=HK1.out;omega⟩,dw_⟩
   ·obtain rfl:=Option.some.inj H
    go_wp2
    repeat (go_quiet (fail);try go_wp2)
    go_ret
    exact ⟨e1_,dw_⟩
def laws_markByteS.l0:Nat->List Int->Int->Int->Option (Int × List Int)
 | 0,_,_,_=>none
 | k+1,x0,x1,x5=>if x5 < (x0.length:Int) then (if 0≤x5 then (laws_markByteS.l0 k (x0.set (x5:Int).toNat ((x1) % 256)) (wrap64 (x1+1)) (wrap64 (x5+1))) else (none)) else (some (x1,x0))
def laws_markByteS.f (k:Nat) (l0:List Int) (a1:Int):Option (Int × List Int):=laws_markByteS.l0 k l0 a1 0
theorem laws_markByteS.calls (k:Nat) (P0_:Nat->Prop) (u9000_:Value) (l0:List Int) (a1:Int) (r1:Int) (r2:List Int) (w0 w:World) (hB:Below w0.heap.size w0 w) (ho0:Kd.R (Kd.int .u8) 5 w w0.heap.size P0_ u9000_ l0) (h:laws_markByteS.f k l0 a1=some (r1,r2)) :
  Calls Tryz.prog 85 #[u9000_,.int .i64 a1] w fun e w'=>e = .returned (.int .i64 r1)∧Kd.R (Kd.int .u8) 5 w' w0.heap.size (fun k_=>(P0_ k_∨w.heap.size≤k_)) u9000_ r2∧Below w0.heap.size w0 w'∧Kept w w' (fun k_=>P0_ k_):=by
 have HO0:=am_ (show Kd.R (Kd.int .u8) 5 w w0.heap.size (fun k_=>(P0_ k_∨w.heap.size≤k_)) u9000_ l0 from Kd.R_mono ho0 (fun k_ hk=>(.inl hk)))
 have HK:=am_ (Kept.refl w (fun k_=>P0_ k_))
 have HW0:=am_ hB.size
 have HB:=am_ hB
 clear hB
 have H:(laws_markByteS.l0 k l0 a1 0)=some (r1,r2):=h
 clear h
 have H':=am_ H
 clear H
 go_enter Tryz.func85,Tryz.ntmps85
 go_wp2
 go_loopg [1,5] k (fun kq v1 v5 w'=>∃ (x0_1:List Int) (x1_1:Int) (x5_1:Int),v1 = .int .i64 x1_1∧v5 = .int .i64 x5_1∧Aside0 (laws_markByteS.l0 kq x0_1 x1_1 x5_1=some (r1,r2))∧Aside0 (kq≤k)∧Aside0 (Kd.R (Kd.int .u8) 5 w' w0.heap.size (fun k_=>(P0_ k_∨w.heap.size≤k_)) u9000_ x0_1)∧Aside0 (Kept w w' (fun k_=>P0_ k_))∧Aside0 (Below w0.heap.size w0 w'))
 case atStart => exact ⟨(l0),(a1),(0),e1_,e1_,H',⟨Nat.le_refl _⟩,⟨kr_ HO0.out⟩,⟨kt_ HK⟩,⟨bw_ HB⟩⟩
 case round =>
  clear H'
  obtain ⟨x0_1,x1_1,x5_1,rfl,rfl,HA,HK1,HO_0,HK,HB⟩:=hrel
  cases gk with
  | zero=>exact absurd HA.out (by simp [laws_markByteS.l0])
  | succ k1 =>
   have H:=HA.out
   clear HA
   simp only [laws_markByteS.l0] at H
   replace H:=itd_ H;obtain ⟨c3b0,H⟩|⟨c3b0,H⟩:=H
   ·replace H:=ipd_ H;obtain ⟨c4b0,H⟩:=H
    obtain ⟨y601,hy1⟩:∃ y_:List Int,y_=(x0_1.set (x5_1:Int).toNat ((x1_1) % 256)):=⟨_,rfl⟩
    replace H:(laws_markByteS.l0 k1 y601 (wrap64 (x1_1+1)) (wrap64 (x5_1+1)))=some (r1,r2):=yh_ hy1 H
    have Ny1:=am_ hy1
    clear hy1
    have H':=am_ H
    clear H
    obtain ⟨Ao6,co6,eo6⟩:=Kd.R_slice HO_0.out
    subst eo6
    have p5:0≤(x5_1:Int):=od_
    have q5:(x5_1:Int) < ((x0_1.length:Int):Int):=od_
    obtain ⟨go5,co5,eo5,gb5,gl5,cl5,HG5⟩:=Kd.R_form HO_0.out (by omega)
    (first | cases eo5|(injection eo5 with ea_ en_ ec_;(first|subst ea_|(injection ea_ with ea_;subst ea_));subst ec_;clear en_))
    have GB5:=am_ gb5
    have GG5:=am_ HG5
    clear gb5 gl5 HG5
    have HMgo5:=am_ (show (P0_ go5∨w.heap.size≤go5) from (HO_0.out.1 _ rfl))
    obtain ⟨hx5_0,hf5_0⟩:=Kd.R_celln 0 HO_0.out (x5_1:Int) p5 q5
    replace p5:=eq_true p5
    replace q5:=eq_true q5
    have HP7:=Kd.R_putg HO_0.out (x5_1:Int) ((x1_1) % 256)
    go_wp2_with (first|((with_reducible refine gate_store (t:=5) (p:=16) rfl ?_);refine store_event (t:=5) (p:=16) (v:=?vo_w8) (w1:=(wr.setCell ⟨go5,(x5_1:Int).toNat,none⟩ (.int .u8 ((x1_1) % 256)))) ?hg ?ho ?hn ?hr ?_;(case ho=>rfl);(case hg=>rfl);(case hn=>rfl);(case hr=>first|(go_simp;done)|(go_simp;rfl));intro w8 hw;have hg:wr.grownBy w8 (some go5):=(by rw [hw];exact HP7.2);have hp_:Kd.R (Kd.int .u8) 5 w8 w0.heap.size (fun k_=>(P0_ k_∨w.heap.size≤k_)) (.slice (some ⟨go5,0,none⟩) x0_1.length co6) y601:=(by rw [hw,Ny1.out];exact HP7.1);clear HP7;replace HB:=am_ ((by rw [hw];exact below_set (HB.out) GB5.out:Below w0.heap.size w0 w8));replace HK:=am_ (Kept.of_grown (S:=(fun k_=>P0_ k_)) hg (kt_ HK) (fun k_ e_=>(HO_0.out.1 k_ e_)));replace HO_0:=am_ hp_;clear hg hw hp_))
    go_roundg k1
    case measure => have:=HK1.out;omega
    case rel => exact ⟨(y601),(wrap64 (x1_1+1)),(wrap64 (x5_1+1)),e1_,e1_,H',⟨by have:=HK1.out;omega⟩,⟨kr_ HO_0.out⟩,⟨kt_ HK⟩,⟨bw_ HB⟩⟩
   ·replace H:=so2_ H;obtain ⟨rfl,rfl⟩:=H
    obtain ⟨Ao9,co9,eo9⟩:=Kd.R_slice HO_0.out
    subst eo9
    go_wp2
    go_ret
    exact ⟨e2_,kr_ HO_0.out,bw_ HB,kt_ HK⟩
def laws_heldByteS.l0:Nat->List Int->Int->Int->Option (Int)
 | 0,_,_,_=>none
 | k+1,x0,x1,x5=>if x5 < (x0.length:Int) then (if 0≤x5 then (if (rd x0 x5)=((x1) % 256) then (laws_heldByteS.l0 k x0 (wrap64 (x1+1)) (wrap64 (x5+1))) else (some (-1))) else (none)) else (some x1)
def laws_heldByteS.f (k:Nat) (l0:List Int) (a1:Int):Option (Int):=laws_heldByteS.l0 k l0 a1 0
theorem laws_heldByteS.calls (k:Nat) (A0:Option Addr) (c0:Nat) (l0:List Int) (a1:Int) (r:Int) (w:World) (hr0:Kd.C (Kd.int .u8) w A0 l0.length l0) (hc0:l0.length≤c0) (h:laws_heldByteS.f k l0 a1=some r) :
  Calls Tryz.prog 105 #[.slice A0 l0.length c0,.int .i64 a1] w fun e w'=>e = .returned (.int .i64 r)∧Drawn0 w w':=by
 have HR0:=am_ hr0
 have HC0:=am_ hc0
 clear hr0 hc0
 have H:(laws_heldByteS.l0 k l0 a1 0)=some r:=h
 clear h
 have H':=am_ H
 clear H
 go_enter Tryz.func105,Tryz.ntmps105
 go_wp2
 go_loopg [1,5] k (fun kq v1 v5 w'=>∃ (x1_1:Int) (x5_1:Int),v1 = .int .i64 x1_1∧v5 = .int .i64 x5_1∧Aside0 (laws_heldByteS.l0 kq l0 x1_1 x5_1=some r)∧Aside0 (kq≤k)∧Drawn0 w w')
 case atStart => exact ⟨(a1),(0),e1_,e1_,H',⟨Nat.le_refl _⟩,dw_⟩
 case round =>
  clear H'
  obtain ⟨x1_1,x5_1,rfl,rfl,HA,HK1,⟨m1,rfl⟩⟩:=hrel
  cases gk with
  | zero=>exact absurd HA.out (by simp [laws_heldByteS.l0])
  | succ k1 =>
   have H:=HA.out
   clear HA
   simp only [laws_heldByteS.l0] at H
   replace H:=itd_ H;obtain ⟨c3b0,H⟩|⟨c3b0,H⟩:=H
   ·replace H:=ipd_ H;obtain ⟨c4b0,H⟩:=H
    replace H:=it_ H;obtain ⟨c5,H⟩|⟨c5,H⟩:=H
    ·have c5b0:((rd l0 x5_1) == ((x1_1) % 256))=true:=beq_iff_eq.mpr c5
     have c5b1:((rd l0 x5_1) != ((x1_1) % 256))=false:=bne_eq_false_iff_eq.mpr c5
     clear c5
     have H':=am_ H
     clear H
     obtain ⟨ad1,e601,hx1_0,p601,q1⟩:=ai_ HR0.out x5_1
     cases e601
     go_wp2
     go_roundg k1
     case measure => have:=HK1.out;omega
     case rel => exact ⟨(wrap64 (x1_1+1)),(wrap64 (x5_1+1)),e1_,e1_,H',⟨by have:=HK1.out;omega⟩,dw_⟩
    ·have c5b0:((rd l0 x5_1) == ((x1_1) % 256))=false:=beq_eq_false_iff_ne.mpr c5
     have c5b1:((rd l0 x5_1) != ((x1_1) % 256))=true:=bne_iff_ne.mpr c5
     obtain rfl:=Option.some.inj H
     obtain ⟨ad1,e601,hx1_0,p601,q1⟩:=ai_ HR0.out x5_1
     cases e601
     go_wp2
     go_ret
     exact ⟨e1_,dw_⟩
   ·obtain rfl:=Option.some.inj H
    go_wp2
    go_ret
    exact ⟨e1_,dw_⟩
def laws_eqStore.f (k:Nat) (l0_0:List ByteArray) (a0_1:Int) (a0_2:ByteArray) (l0_3:List Int) (a0_4:Int) (l1_0:List ByteArray) (a1_1:Int) (a1_2:ByteArray) (l1_3:List Int) (a1_4:Int):Option (Bool):=(laws_eqLog.f k l0_0 a0_1 a0_2 l1_0 a1_1 a1_2).bind fun t3=>(if t3=true then ((laws_eqByteS.f k l0_3 l1_3).bind fun t4=>(if t4=true then (if a0_4=a1_4 then (some true) else (none)) else (none))) else (none))
theorem laws_eqStore.calls (k:Nat) (A0_0:Option Addr) (c0_0:Nat) (l0_0:List ByteArray) (a0_1:Int) (a0_2:ByteArray) (A0_3:Option Addr) (c0_3:Nat) (l0_3:List Int) (a0_4:Int) (A1_0:Option Addr) (c1_0:Nat) (l1_0:List ByteArray) (a1_1:Int) (a1_2:ByteArray) (A1_3:Option Addr) (c1_3:Nat) (l1_3:List Int) (a1_4:Int) (r:Bool) (w:World) (hr0_0:Kd.C Kd.string w A0_0 l0_0.length l0_0) (hc0_0:l0_0.length≤c0_0) (hr0_3:Kd.C (Kd.int .u8) w A0_3 l0_3.length l0_3) (hc0_3:l0_3.length≤c0_3) (hr1_0:Kd.C Kd.string w A1_0 l1_0.length l1_0) (hc1_0:l1_0.length≤c1_0) (hr1_3:Kd.C (Kd.int .u8) w A1_3 l1_3.length l1_3) (hc1_3:l1_3.length≤c1_3) (h:laws_eqStore.f k l0_0 a0_1 a0_2 l0_3 a0_4 l1_0 a1_1 a1_2 l1_3 a1_4=some r) :
  Calls Tryz.prog 45 #[.agg #[.slice A0_0 l0_0.length c0_0,.int .i64 a0_1,.string a0_2,.slice A0_3 l0_3.length c0_3,.int .i64 a0_4],.agg #[.slice A1_0 l1_0.length c1_0,.int .i64 a1_1,.string a1_2,.slice A1_3 l1_3.length c1_3,.int .i64 a1_4]] w fun e w'=>e = .returned (.bool r)∧Below w.heap.size w w':=by
 have hu41:=Tryz.underlying41
 have hu39:=Tryz.underlying39
 have HR0_0:=am_ hr0_0
 have HC0_0:=am_ hc0_0
 clear hr0_0 hc0_0
 have HR0_3:=am_ hr0_3
 have HC0_3:=am_ hc0_3
 clear hr0_3 hc0_3
 have HR1_0:=am_ hr1_0
 have HC1_0:=am_ hc1_0
 clear hr1_0 hc1_0
 have HR1_3:=am_ hr1_3
 have HC1_3:=am_ hc1_3
 clear hr1_3 hc1_3
 have HB:=h0_ w
 have H:((laws_eqLog.f k l0_0 a0_1 a0_2 l1_0 a1_1 a1_2).bind fun t3=>(if t3=true then ((laws_eqByteS.f k l0_3 l1_3).bind fun t4=>(if t4=true then (if a0_4=a1_4 then (some true) else (none)) else (none))) else (none)))=some r:=h
 clear h
 replace H:=bi_ H;obtain ⟨t3,A3,H⟩:=H
 replace H:=ipb_ H;obtain ⟨rfl,H⟩:=H
 replace H:=bi_ H;obtain ⟨t4,A5,H⟩:=H
 replace H:=ipb_ H;obtain ⟨rfl,H⟩:=H
 replace H:=ip_ H;obtain ⟨c7,H⟩:=H
 have c7b0:(a0_4 == a1_4)=true:=beq_iff_eq.mpr c7
 have c7b1:(a0_4 != a1_4)=false:=bne_eq_false_iff_eq.mpr c7
 clear c7
 obtain rfl:=Option.some.inj H
 go_enter Tryz.func45,Tryz.ntmps45
 go_wp2_with (first|((with_reducible refine gd_ 2 ?_);refine bx_ 2 41 #[.slice A0_0 l0_0.length c0_0,.int .i64 a0_1,.string a0_2,.slice A0_3 l0_3.length c0_3,.int .i64 a0_4] (hx_ HB ?_);clear HB;intro gb1 w8 BK1 GW1 HB;have GE1:=GW1)|((with_reducible refine gd_ 3 ?_);refine bx_ 3 41 #[.slice A1_0 l1_0.length c1_0,.int .i64 a1_1,.string a1_2,.slice A1_3 l1_3.length c1_3,.int .i64 a1_4] ?_;intro gb2 hg w9 hbox hb;have BK2:=am_ hbox;have GW2:=gg_ hg HB;have GE2:=GW2;replace HB:=ss_ HB hb;have NB1_2:=nla_ hg BK1;have NB2_1:=nga_ hg BK1;replace BK1:=kl_ BK1 hb;clear hb hbox hg;have hnb10:=NB1_2.out;have hnc10:=NB2_1.out;have hz11:=cz5_ BK1;have hz12:=cz5_ BK2)|((with_reducible refine gq_ 82 9 ?_);refine gc_ 9 Tryz.func82 (laws_eqLog.calls k _ _ l0_0 a0_1 a0_2 _ _ l1_0 a1_1 a1_2 true _ (cb_ HR0_0 HB) HC0_0.out (cb_ HR1_0 HB) HC1_0.out A3.out) ?_;rintro e w13 ⟨rfl,hb⟩;refine ⟨_,rfl,?_⟩;replace BK1:=kl_ BK1 hb;replace BK2:=kl_ BK2 hb;replace HB:=ss_ HB hb;clear hb;have hz14:=cz5_ BK1;have hz15:=cz5_ BK2)|((with_reducible refine gq_ 83 15 ?_);refine gc_ 15 Tryz.func83 (laws_eqByteS.calls k _ _ l0_3 _ _ l1_3 true _ (cb_ HR0_3 HB) HC0_3.out (cb_ HR1_3 HB) HC1_3.out A5.out) ?_;rintro e w' ⟨rfl,⟨nd,rfl⟩⟩;refine ⟨_,rfl,?_⟩))
 go_ret
 exact ⟨e2_,bw_ HB⟩
def laws_szByteS.f (l0:List Int) (a1:Int):Option (Int):=if (wrap64 (a1 - (l0.length:Int))) < 0 then (some (-1)) else (some (wrap64 (a1 - (l0.length:Int))))
theorem laws_szByteS.calls (A0:Option Addr) (c0:Nat) (l0:List Int) (a1:Int) (r:Int) (w:World) (hr0:Kd.C (Kd.int .u8) w A0 l0.length l0) (hc0:l0.length≤c0) (h:laws_szByteS.f l0 a1=some r) :
  Calls Tryz.prog 71 #[.slice A0 l0.length c0,.int .i64 a1] w fun e w'=>e = .returned (.int .i64 r)∧Drawn0 w w':=by
 have HR0:=am_ hr0
 have HC0:=am_ hc0
 clear hr0 hc0
 have H:(if (wrap64 (a1 - (l0.length:Int))) < 0 then (some (-1)) else (some (wrap64 (a1 - (l0.length:Int)))))=some r:=h
 clear h
 replace H:=itd_ H;obtain ⟨c3b0,H⟩|⟨c3b0,H⟩:=H
 ·obtain rfl:=Option.some.inj H
  go_enter Tryz.func71,Tryz.ntmps71
  go_wp2
  go_ret
  exact ⟨e1_,dw_⟩
 ·obtain rfl:=Option.some.inj H
  go_enter Tryz.func71,Tryz.ntmps71
  go_wp2
  go_ret
  exact ⟨e1_,dw_⟩
def laws_toByteS.l0:Nat->List Int->List Int->Int->Option (List Int)
 | 0,_,_,_=>none
 | k+1,x0,x3,x4=>if x4 < (x0.length:Int) then (if 0≤x4 then (if x4 < (x3.length:Int) then (laws_toByteS.l0 k x0 (x3.set (x4:Int).toNat (rd x0 x4)) (wrap64 (x4+1))) else (none)) else (none)) else (some x3)
def laws_toByteS.f (k:Nat) (l0:List Int):Option (List Int):=if 0≤(l0.length:Int) then (if ((l0.length:Int):Int).toNat≤281474976710656 then (laws_toByteS.l0 k l0 (List.replicate ((l0.length:Int):Int).toNat 0) 0) else (none)) else (none)
theorem laws_toByteS.calls (k:Nat) (A0:Option Addr) (c0:Nat) (l0:List Int) (r:List Int) (w:World) (hr0:Kd.C (Kd.int .u8) w A0 l0.length l0) (hc0:l0.length≤c0) (h:laws_toByteS.f k l0=some r) :
  Calls Tryz.prog 78 #[.slice A0 l0.length c0] w fun e w'=>∃ v0_:Value,e = .returned (v0_)∧Kd.R (Kd.int .u8) 5 w' w.heap.size (fun _=>True) v0_ r∧Below w.heap.size w w':=by
 have HR0:=am_ hr0
 have HC0:=am_ hc0
 clear hr0 hc0
 have HB:=h0_ w
 have H:(if 0≤(l0.length:Int) then (if ((l0.length:Int):Int).toNat≤281474976710656 then (laws_toByteS.l0 k l0 (List.replicate ((l0.length:Int):Int).toNat 0) 0) else (none)) else (none))=some r:=h
 clear h
 replace H:=ip_ H;obtain ⟨c2,H⟩:=H
 have c2b0:=eq_true c2
 have c2b1:=decide_eq_true c2
 clear c2
 replace H:=ip_ H;obtain ⟨c3,H⟩:=H
 have c3b0:=eq_true c3
 have c3b1:=decide_eq_true c3
 clear c3
 obtain ⟨y601,hy1⟩:∃ y_:List Int,y_=(List.replicate ((l0.length:Int):Int).toNat 0):=⟨_,rfl⟩
 replace H:(laws_toByteS.l0 k l0 y601 0)=some r:=yh_ hy1 H
 have Ny1:=am_ hy1
 clear hy1
 have H':=am_ H
 clear H
 go_enter Tryz.func78,Tryz.ntmps78
 go_wp2_with (first|((with_reducible refine gd_ 7 ?_);refine Kd.R_make (Kd.int .u8) _ 5 rfl (N:=7) rfl 27 _ _ rfl (l0.length:Int) rfl rfl Tryz.underlying27 (.int .u8 0) 1 info5 rfl (by decide) (by omega) 0 (ok:=fun _=>True) (okp:=fun _=>True) rfl (fun _ hk=>hk) trivial (od_) (Nat.le_trans (Nat.mul_le_mul_right _ (od_:(l0.length:Int).toNat≤281474976710656)) (by omega)) (Below.refl _ _) (Nat.le_refl _) ?_;intro v2 w4 ho5 hb hg_ hnew_;clear hg_ hnew_;(first|rw [← Ny1.out] at ho5|(simp only [Int.reduceToNat] at ho5;rw [← Ny1.out] at ho5));have HO3:=rlo_ ho5 HB;replace HB:=ss_ HB hb;clear hb ho5))
 go_loopg [4] k (fun kq v4 w'=>∃ (x3_1:List Int) (x4_1:Int),v4 = .int .i64 x4_1∧Aside0 (laws_toByteS.l0 kq l0 x3_1 x4_1=some r)∧Aside0 (kq≤k)∧Aside0 (Kd.R (Kd.int .u8) 5 w' w.heap.size (fun _=>True) v2 x3_1)∧Aside0 (Below w.heap.size w w'))
 case atStart => exact ⟨(y601),(0),e1_,H',⟨Nat.le_refl _⟩,⟨kr_ HO3.out⟩,⟨bw_ HB⟩⟩
 case round =>
  clear H'
  try clear c2
  try clear c2b0
  try clear c2b1
  try clear c3
  try clear c3b0
  try clear c3b1
  obtain ⟨x3_1,x4_1,rfl,HA,HK1,HO_3,HB⟩:=hrel
  cases gk with
  | zero=>exact absurd HA.out (by simp [laws_toByteS.l0])
  | succ k1 =>
   have H:=HA.out
   clear HA
   simp only [laws_toByteS.l0] at H
   replace H:=itd_ H;obtain ⟨c6b0,H⟩|⟨c6b0,H⟩:=H
   ·replace H:=ipd_ H;obtain ⟨c7b0,H⟩:=H
    replace H:=ipd_ H;obtain ⟨c8b0,H⟩:=H
    obtain ⟨y605,hy5⟩:∃ y_:List Int,y_=(x3_1.set (x4_1:Int).toNat (rd l0 x4_1)):=⟨_,rfl⟩
    replace H:(laws_toByteS.l0 k1 l0 y605 (wrap64 (x4_1+1)))=some r:=yh_ hy5 H
    have Ny5:=am_ hy5
    clear hy5
    have H':=am_ H
    clear H
    have p604:0≤(x4_1:Int):=od_
    have q4:x4_1 < (l0.length:Int):=od_
    obtain ⟨ad4,e4,hx4_0⟩:=Kd.at_int HR0.out x4_1 p604 q4
    cases e4
    replace hx4_0:=cw_ HB hx4_0
    replace p604:=eq_true p604
    replace q4:=eq_true q4
    have p9:0≤(x4_1:Int):=od_
    have q9:(x4_1:Int) < ((x3_1.length:Int):Int):=od_
    obtain ⟨go9,co9,eo9,gb9,gl9,cl9,HG9⟩:=Kd.R_form HO_3.out (by omega)
    (first | cases eo9|(injection eo9 with ea_ en_ ec_;(first|subst ea_|(injection ea_ with ea_;subst ea_));subst ec_;clear en_))
    have GB9:=am_ gb9
    have GG9:=am_ HG9
    clear gb9 gl9 HG9
    obtain ⟨hx9_0,hf9_0⟩:=Kd.R_celln 0 HO_3.out (x4_1:Int) p9 q9
    replace p9:=eq_true p9
    replace q9:=eq_true q9
    have HP10:=Kd.R_putg HO_3.out (x4_1:Int) (rd l0 x4_1)
    go_wp2_with (first|((with_reducible refine gate_store (t:=5) (p:=20) rfl ?_);refine store_event (t:=5) (p:=20) (v:=?vo_w11) (w1:=(wr.setCell ⟨go9,(x4_1:Int).toNat,none⟩ (.int .u8 (rd l0 x4_1)))) ?hg ?ho ?hn ?hr ?_;(case ho=>rfl);(case hg=>rfl);(case hn=>rfl);(case hr=>first|(go_simp;done)|(go_simp;rfl));intro w11 hw;have hg:wr.grownBy w11 (some go9):=(by rw [hw];exact HP10.2);have hp_:Kd.R (Kd.int .u8) 5 w11 w.heap.size (fun _=>True) (.slice (some ⟨go9,0,none⟩) x3_1.length co9) y605:=(by rw [hw,Ny5.out];exact HP10.1);clear HP10;replace HO_3:=am_ hp_;replace HB:=am_ ((by rw [hw];exact below_set (HB.out) GB9.out:Below w.heap.size w w11));clear hg hw hp_))
    go_roundg k1
    case measure => have:=HK1.out;omega
    case rel => exact ⟨(y605),(wrap64 (x4_1+1)),e1_,H',⟨by have:=HK1.out;omega⟩,⟨kr_ HO_3.out⟩,⟨bw_ HB⟩⟩
   ·obtain rfl:=Option.some.inj H
    go_wp2
    go_ret
    exact ⟨_,e2_,kr_ HO_3.out,bw_ HB⟩
def laws_szStore.f (k:Nat) (l0_0:List ByteArray) (a0_1:Int) (a0_2:ByteArray) (l0_3:List Int) (a0_4:Int) (a1:Int):Option (Int):=(laws_szLog.f k l0_0 a0_1 a0_2 a1).bind fun t602=>(if t602 < 0 then (some (-1)) else ((laws_szByteS.f l0_3 t602).bind fun t3=>(if t3 < 0 then (some (-1)) else (some t3))))
theorem laws_szStore.calls (k:Nat) (A0_0:Option Addr) (c0_0:Nat) (l0_0:List ByteArray) (a0_1:Int) (a0_2:ByteArray) (A0_3:Option Addr) (c0_3:Nat) (l0_3:List Int) (a0_4:Int) (a1:Int) (r:Int) (w:World) (hr0_0:Kd.C Kd.string w A0_0 l0_0.length l0_0) (hc0_0:l0_0.length≤c0_0) (hr0_3:Kd.C (Kd.int .u8) w A0_3 l0_3.length l0_3) (hc0_3:l0_3.length≤c0_3) (h:laws_szStore.f k l0_0 a0_1 a0_2 l0_3 a0_4 a1=some r) :
  Calls Tryz.prog 37 #[.agg #[.slice A0_0 l0_0.length c0_0,.int .i64 a0_1,.string a0_2,.slice A0_3 l0_3.length c0_3,.int .i64 a0_4],.int .i64 a1] w fun e w'=>e = .returned (.int .i64 r)∧Below w.heap.size w w':=by
 have hu29:=Tryz.underlying29
 have hu26:=Tryz.underlying26
 have HR0_0:=am_ hr0_0
 have HC0_0:=am_ hc0_0
 clear hr0_0 hc0_0
 have HR0_3:=am_ hr0_3
 have HC0_3:=am_ hc0_3
 clear hr0_3 hc0_3
 have HB:=h0_ w
 have H:((laws_szLog.f k l0_0 a0_1 a0_2 a1).bind fun t602=>(if t602 < 0 then (some (-1)) else ((laws_szByteS.f l0_3 t602).bind fun t3=>(if t3 < 0 then (some (-1)) else (some t3)))))=some r:=h
 clear h
 replace H:=bi_ H;obtain ⟨t602,A3,H⟩:=H
 replace H:=itd_ H;obtain ⟨c4b0,H⟩|⟨c4b0,H⟩:=H
 ·obtain rfl:=Option.some.inj H
  go_enter Tryz.func37,Tryz.ntmps37
  go_wp2_with (first|((with_reducible refine gd_ 2 ?_);refine bx_ 2 29 #[.slice A0_0 l0_0.length c0_0,.int .i64 a0_1,.string a0_2,.slice A0_3 l0_3.length c0_3,.int .i64 a0_4] (hx_ HB ?_);clear HB;intro gb1 w5 BK1 GW1 HB;have GE1:=GW1;have hz6:=cz5_ BK1)|((with_reducible refine gq_ 70 8 ?_);refine gc_ 8 Tryz.func70 (laws_szLog.calls k _ _ l0_0 a0_1 a0_2 a1 t602 _ (cb_ HR0_0 HB) HC0_0.out A3.out) ?_;rintro e w7 ⟨rfl,hb⟩;refine ⟨_,rfl,?_⟩;replace BK1:=kl_ BK1 hb;replace HB:=ss_ HB hb;clear hb))
  go_ret
  exact ⟨e2_,bw_ HB⟩
 ·replace H:=bi_ H;obtain ⟨t3,A8,H⟩:=H
  replace H:=itd_ H;obtain ⟨c9b0,H⟩|⟨c9b0,H⟩:=H
  ·obtain rfl:=Option.some.inj H
   go_enter Tryz.func37,Tryz.ntmps37
   go_wp2_with (first|((with_reducible refine gd_ 2 ?_);refine bx_ 2 29 #[.slice A0_0 l0_0.length c0_0,.int .i64 a0_1,.string a0_2,.slice A0_3 l0_3.length c0_3,.int .i64 a0_4] (hx_ HB ?_);clear HB;intro gb1 w10 BK1 GW1 HB;have GE1:=GW1;have hz11:=cz5_ BK1)|((with_reducible refine gq_ 70 8 ?_);refine gc_ 8 Tryz.func70 (laws_szLog.calls k _ _ l0_0 a0_1 a0_2 a1 t602 _ (cb_ HR0_0 HB) HC0_0.out A3.out) ?_;rintro e w12 ⟨rfl,hb⟩;refine ⟨_,rfl,?_⟩;replace BK1:=kl_ BK1 hb;replace HB:=ss_ HB hb;clear hb;have hz13:=cz5_ BK1)|((with_reducible refine gq_ 71 14 ?_);refine gc_ 14 Tryz.func71 (laws_szByteS.calls _ _ l0_3 t602 t3 _ (cb_ HR0_3 HB) HC0_3.out A8.out) ?_;rintro e w' ⟨rfl,⟨nd,rfl⟩⟩;refine ⟨_,rfl,?_⟩))
   go_ret
   exact ⟨e2_,bw_ HB⟩
  ·obtain rfl:=Option.some.inj H
   go_enter Tryz.func37,Tryz.ntmps37
   go_wp2_with (first|((with_reducible refine gd_ 2 ?_);refine bx_ 2 29 #[.slice A0_0 l0_0.length c0_0,.int .i64 a0_1,.string a0_2,.slice A0_3 l0_3.length c0_3,.int .i64 a0_4] (hx_ HB ?_);clear HB;intro gb1 w14 BK1 GW1 HB;have GE1:=GW1;have hz15:=cz5_ BK1)|((with_reducible refine gq_ 70 8 ?_);refine gc_ 8 Tryz.func70 (laws_szLog.calls k _ _ l0_0 a0_1 a0_2 a1 t602 _ (cb_ HR0_0 HB) HC0_0.out A3.out) ?_;rintro e w16 ⟨rfl,hb⟩;refine ⟨_,rfl,?_⟩;replace BK1:=kl_ BK1 hb;replace HB:=ss_ HB hb;clear hb;have hz17:=cz5_ BK1)|((with_reducible refine gq_ 71 14 ?_);refine gc_ 14 Tryz.func71 (laws_szByteS.calls _ _ l0_3 t602 t3 _ (cb_ HR0_3 HB) HC0_3.out A8.out) ?_;rintro e w' ⟨rfl,⟨nd,rfl⟩⟩;refine ⟨_,rfl,?_⟩))
   go_ret
   exact ⟨e2_,bw_ HB⟩
def laws_toStore.f (k:Nat) (l0_0:List ByteArray) (a0_1:Int) (a0_2:ByteArray) (l0_3:List Int) (a0_4:Int):Option (List ByteArray × Int × ByteArray × List Int × Int):=(laws_toLog.f k l0_0 a0_1 a0_2).bind fun bt4=>((laws_toByteS.f k l0_3).bind fun t9=>(some (bt4.1,bt4.2.1,bt4.2.2,t9,a0_4)))
theorem laws_toStore.calls (k:Nat) (A0_0:Option Addr) (c0_0:Nat) (l0_0:List ByteArray) (a0_1:Int) (a0_2:ByteArray) (A0_3:Option Addr) (c0_3:Nat) (l0_3:List Int) (a0_4:Int) (r1:List ByteArray) (r2:Int) (r3:ByteArray) (r4:List Int) (r5:Int) (w:World) (hr0_0:Kd.C Kd.string w A0_0 l0_0.length l0_0) (hc0_0:l0_0.length≤c0_0) (hr0_3:Kd.C (Kd.int .u8) w A0_3 l0_3.length l0_3) (hc0_3:l0_3.length≤c0_3) (h:laws_toStore.f k l0_0 a0_1 a0_2 l0_3 a0_4=some (r1,r2,r3,r4,r5)) :
  Calls Tryz.prog 41 #[.agg #[.slice A0_0 l0_0.length c0_0,.int .i64 a0_1,.string a0_2,.slice A0_3 l0_3.length c0_3,.int .i64 a0_4]] w fun e w'=>∃ v0_ v3_:Value,e = .returned (.agg #[v0_,.int .i64 r2,.string r3,v3_,.int .i64 r5])∧Kd.R Kd.string 9 w' w.heap.size (fun _=>True) v0_ r1∧Kd.R (Kd.int .u8) 5 w' w.heap.size (fun _=>True) v3_ r4∧Below w.heap.size w w':=by
 have hu29:=Tryz.underlying29
 have hu41:=Tryz.underlying41
 have hu26:=Tryz.underlying26
 have hu39:=Tryz.underlying39
 have HR0_0:=am_ hr0_0
 have HC0_0:=am_ hc0_0
 clear hr0_0 hc0_0
 have HR0_3:=am_ hr0_3
 have HC0_3:=am_ hc0_3
 clear hr0_3 hc0_3
 have HB:=h0_ w
 have H:((laws_toLog.f k l0_0 a0_1 a0_2).bind fun bt4=>((laws_toByteS.f k l0_3).bind fun t9=>(some (bt4.1,bt4.2.1,bt4.2.2,t9,a0_4))))=some (r1,r2,r3,r4,r5):=h
 clear h
 replace H:=bi_ H;obtain ⟨⟨t4,t7,t8⟩,A2,H⟩:=H
 dsimp only at H
 replace H:=bi_ H;obtain ⟨t9,A3,H⟩:=H
 replace H:=so5_ H;obtain ⟨rfl,rfl,rfl,rfl,rfl⟩:=H
 go_enter Tryz.func41,Tryz.ntmps41
 go_wp2_with (first|((with_reducible refine gd_ 1 ?_);refine bx_ 1 29 #[.slice A0_0 l0_0.length c0_0,.int .i64 a0_1,.string a0_2,.slice A0_3 l0_3.length c0_3,.int .i64 a0_4] (hx_ HB ?_);clear HB;intro gb1 w4 BK1 GW1 HB;have GE1:=GW1)|((with_reducible refine gd_ 2 ?_);refine x41_ 2 ?_;intro gb2 hg w5 hbox hb;have BK2:=am_ hbox;have GW2:=gg_ hg HB;have GE2:=GW2;replace HB:=ss_ HB hb;have NB1_2:=nla_ hg BK1;have NB2_1:=nga_ hg BK1;replace BK1:=kl_ BK1 hb;clear hb hbox hg)|((with_reducible refine gd_ 3 ?_);refine x41_ 3 ?_;intro gb3 hg w6 hbox hb;have BK3:=am_ hbox;have GW3:=gg_ hg HB;have GE3:=GW3;replace HB:=ss_ HB hb;have NB1_3:=nla_ hg BK1;have NB3_1:=nga_ hg BK1;replace BK1:=kl_ BK1 hb;have NB2_3:=nla_ hg BK2;have NB3_2:=nga_ hg BK2;replace BK2:=kl_ BK2 hb;clear hb hbox hg;have hnb7:=NB1_2.out;have hnc7:=NB2_1.out;have hnb8:=NB1_3.out;have hnc8:=NB3_1.out;have hz9:=cz5_ BK1)|((with_reducible refine gq_ 77 6 ?_);refine gc_ 6 Tryz.func77 (laws_toLog.calls k _ _ l0_0 a0_1 a0_2 t4 t7 t8 _ (cb_ HR0_0 HB) HC0_0.out A2.out) ?_;rintro e w10 ⟨v5,rfl,ho0,hb⟩;refine ⟨_,rfl,?_⟩;have HO6:=rlo_ ho0 HB;replace BK1:=kl_ BK1 hb;replace BK2:=kl_ BK2 hb;replace BK3:=kl_ BK3 hb;replace HB:=ss_ HB hb;clear hb ho0;obtain ⟨Ao11,co11,eo11⟩:=Kd.R_slice HO6.out;subst eo11;have hnb12:=NB3_2.out;have hnc12:=NB2_3.out;have hz13:=cz5_ BK3;have hz14:=cz5_ BK1)|((with_reducible refine gq_ 78 10 ?_);refine gc_ 10 Tryz.func78 (laws_toByteS.calls k _ _ l0_3 t9 _ (Kd.C_below HR0_3.out (bw_ HB)) HC0_3.out A3.out) ?_;rintro e w15 ⟨v10,rfl,ho0,hb⟩;refine ⟨_,rfl,?_⟩;replace HO6:=rbf_ HO6 BK3 hb;have HO11:=rlo_ ho0 HB;replace BK1:=kp_ BK1 hb;replace BK2:=kp_ BK2 hb;replace BK3:=kp_ BK3 hb;replace HB:=ss_ HB hb;clear hb ho0;obtain ⟨Ao16,co16,eo16⟩:=Kd.R_slice HO11.out;subst eo16;have hz17:=cz5_ BK3;have hz18:=cz5_ BK1;have hz19:=cz5_ BK2))
 refine bodyPost_ret (rcr_ gb2 41 #[.slice Ao11 t4.length co11,.int .i64 t7,.string t8,.slice Ao16 t9.length co16,.int .i64 a0_4] BK2 Tryz.underlying41) rfl ?_
 exact ⟨_,_,e2_,kfm2_ HO6 BK3 BK2,kfm2_ HO11 BK3 BK2,bw_ HB⟩
def laws_szMirror.f (k:Nat) (a0_0:Int) (l0_1:List ByteArray) (a0_2:Int) (a0_3:ByteArray) (l0_4:List Int) (a0_5:Int) (a0_6:Int) (a0_7:ByteArray) (a1:Int):Option (Int):=(laws_szStore.f k l0_1 a0_2 a0_3 l0_4 a0_5 a1).bind fun t602=>(if t602 < 0 then (some (-1)) else ((laws_szHead.f a0_6 a0_7 t602).bind fun t3=>(if t3 < 0 then (some (-1)) else (some t3))))
theorem laws_szMirror.calls (k:Nat) (a0_0:Int) (A0_1:Option Addr) (c0_1:Nat) (l0_1:List ByteArray) (a0_2:Int) (a0_3:ByteArray) (A0_4:Option Addr) (c0_4:Nat) (l0_4:List Int) (a0_5:Int) (a0_6:Int) (a0_7:ByteArray) (a1:Int) (r:Int) (w:World) (hr0_1:Kd.C Kd.string w A0_1 l0_1.length l0_1) (hc0_1:l0_1.length≤c0_1) (hr0_4:Kd.C (Kd.int .u8) w A0_4 l0_4.length l0_4) (hc0_4:l0_4.length≤c0_4) (h:laws_szMirror.f k a0_0 l0_1 a0_2 a0_3 l0_4 a0_5 a0_6 a0_7 a1=some r) :
  Calls Tryz.prog 9 #[.agg #[.int .i64 a0_0,.slice A0_1 l0_1.length c0_1,.int .i64 a0_2,.string a0_3,.slice A0_4 l0_4.length c0_4,.int .i64 a0_5,.int .i64 a0_6,.string a0_7],.int .i64 a1] w fun e w'=>e = .returned (.int .i64 r)∧Below w.heap.size w w':=by
 have hu31:=Tryz.underlying31
 have hu29:=Tryz.underlying29
 have hu24:=Tryz.underlying24
 have HR0_1:=am_ hr0_1
 have HC0_1:=am_ hc0_1
 clear hr0_1 hc0_1
 have HR0_4:=am_ hr0_4
 have HC0_4:=am_ hc0_4
 clear hr0_4 hc0_4
 have HB:=h0_ w
 have H:((laws_szStore.f k l0_1 a0_2 a0_3 l0_4 a0_5 a1).bind fun t602=>(if t602 < 0 then (some (-1)) else ((laws_szHead.f a0_6 a0_7 t602).bind fun t3=>(if t3 < 0 then (some (-1)) else (some t3)))))=some r:=h
 clear h
 replace H:=bi_ H;obtain ⟨t602,A3,H⟩:=H
 replace H:=itd_ H;obtain ⟨c4b0,H⟩|⟨c4b0,H⟩:=H
 ·obtain rfl:=Option.some.inj H
  go_enter Tryz.func9,Tryz.ntmps9
  go_wp2_with (first|((with_reducible refine gd_ 2 ?_);refine bx_ 2 31 #[.int .i64 a0_0,.slice A0_1 l0_1.length c0_1,.int .i64 a0_2,.string a0_3,.slice A0_4 l0_4.length c0_4,.int .i64 a0_5,.int .i64 a0_6,.string a0_7] (hx_ HB ?_);clear HB;intro gb1 w5 BK1 GW1 HB;have GE1:=GW1;have hcz6:=cz8_ BK1)|((with_reducible refine gq_ 37 8 ?_);refine gc_ 8 Tryz.func37 (laws_szStore.calls k _ _ l0_1 a0_2 a0_3 _ _ l0_4 a0_5 a1 t602 _ (cb_ HR0_1 HB) HC0_1.out (cb_ HR0_4 HB) HC0_4.out A3.out) ?_;rintro e w7 ⟨rfl,hb⟩;refine ⟨_,rfl,?_⟩;replace BK1:=kl_ BK1 hb;replace HB:=ss_ HB hb;clear hb))
  go_ret
  exact ⟨e2_,bw_ HB⟩
 ·replace H:=bi_ H;obtain ⟨t3,A8,H⟩:=H
  replace H:=itd_ H;obtain ⟨c9b0,H⟩|⟨c9b0,H⟩:=H
  ·obtain rfl:=Option.some.inj H
   go_enter Tryz.func9,Tryz.ntmps9
   go_wp2_with (first|((with_reducible refine gd_ 2 ?_);refine bx_ 2 31 #[.int .i64 a0_0,.slice A0_1 l0_1.length c0_1,.int .i64 a0_2,.string a0_3,.slice A0_4 l0_4.length c0_4,.int .i64 a0_5,.int .i64 a0_6,.string a0_7] (hx_ HB ?_);clear HB;intro gb1 w10 BK1 GW1 HB;have GE1:=GW1;have hcz11:=cz8_ BK1)|((with_reducible refine gq_ 37 8 ?_);refine gc_ 8 Tryz.func37 (laws_szStore.calls k _ _ l0_1 a0_2 a0_3 _ _ l0_4 a0_5 a1 t602 _ (cb_ HR0_1 HB) HC0_1.out (cb_ HR0_4 HB) HC0_4.out A3.out) ?_;rintro e w12 ⟨rfl,hb⟩;refine ⟨_,rfl,?_⟩;replace BK1:=kl_ BK1 hb;replace HB:=ss_ HB hb;clear hb;have hcz13:=cz8_ BK1)|((with_reducible refine gq_ 38 14 ?_);refine gc_ 14 Tryz.func38 (laws_szHead.calls a0_6 a0_7 t602 t3 _ A8.out) ?_;rintro e w14 ⟨rfl,hb⟩;refine ⟨_,rfl,?_⟩;replace BK1:=kl_ BK1 hb;replace HB:=ss_ HB hb;clear hb))
   go_ret
   exact ⟨e2_,bw_ HB⟩
  ·obtain rfl:=Option.some.inj H
   go_enter Tryz.func9,Tryz.ntmps9
   go_wp2_with (first|((with_reducible refine gd_ 2 ?_);refine bx_ 2 31 #[.int .i64 a0_0,.slice A0_1 l0_1.length c0_1,.int .i64 a0_2,.string a0_3,.slice A0_4 l0_4.length c0_4,.int .i64 a0_5,.int .i64 a0_6,.string a0_7] (hx_ HB ?_);clear HB;intro gb1 w15 BK1 GW1 HB;have GE1:=GW1;have hcz16:=cz8_ BK1)|((with_reducible refine gq_ 37 8 ?_);refine gc_ 8 Tryz.func37 (laws_szStore.calls k _ _ l0_1 a0_2 a0_3 _ _ l0_4 a0_5 a1 t602 _ (cb_ HR0_1 HB) HC0_1.out (cb_ HR0_4 HB) HC0_4.out A3.out) ?_;rintro e w17 ⟨rfl,hb⟩;refine ⟨_,rfl,?_⟩;replace BK1:=kl_ BK1 hb;replace HB:=ss_ HB hb;clear hb;have hcz18:=cz8_ BK1)|((with_reducible refine gq_ 38 14 ?_);refine gc_ 14 Tryz.func38 (laws_szHead.calls a0_6 a0_7 t602 t3 _ A8.out) ?_;rintro e w19 ⟨rfl,hb⟩;refine ⟨_,rfl,?_⟩;replace BK1:=kl_ BK1 hb;replace HB:=ss_ HB hb;clear hb))
   go_ret
   exact ⟨e2_,bw_ HB⟩
def laws_toMirror.f (k:Nat) (a0_0:Int) (l0_1:List ByteArray) (a0_2:Int) (a0_3:ByteArray) (l0_4:List Int) (a0_5:Int) (a0_6:Int) (a0_7:ByteArray):Option (Int × List ByteArray × Int × ByteArray × List Int × Int × Int × ByteArray):=(laws_toStore.f k l0_1 a0_2 a0_3 l0_4 a0_5).bind fun bt4=>((laws_toHead.f a0_6 a0_7).bind fun bt13=>(some (a0_0,bt4.1,bt4.2.1,bt4.2.2.1,bt4.2.2.2.1,bt4.2.2.2.2,bt13.1,bt13.2)))
theorem laws_toMirror.calls (k:Nat) (a0_0:Int) (A0_1:Option Addr) (c0_1:Nat) (l0_1:List ByteArray) (a0_2:Int) (a0_3:ByteArray) (A0_4:Option Addr) (c0_4:Nat) (l0_4:List Int) (a0_5:Int) (a0_6:Int) (a0_7:ByteArray) (r1:Int) (r2:List ByteArray) (r3:Int) (r4:ByteArray) (r5:List Int) (r6:Int) (r7:Int) (r8:ByteArray) (w:World) (hr0_1:Kd.C Kd.string w A0_1 l0_1.length l0_1) (hc0_1:l0_1.length≤c0_1) (hr0_4:Kd.C (Kd.int .u8) w A0_4 l0_4.length l0_4) (hc0_4:l0_4.length≤c0_4) (h:laws_toMirror.f k a0_0 l0_1 a0_2 a0_3 l0_4 a0_5 a0_6 a0_7=some (r1,r2,r3,r4,r5,r6,r7,r8)) :
  Calls Tryz.prog 12 #[.agg #[.int .i64 a0_0,.slice A0_1 l0_1.length c0_1,.int .i64 a0_2,.string a0_3,.slice A0_4 l0_4.length c0_4,.int .i64 a0_5,.int .i64 a0_6,.string a0_7]] w fun e w'=>∃ v1_ v4_:Value,e = .returned (.agg #[.int .i64 r1,v1_,.int .i64 r3,.string r4,v4_,.int .i64 r6,.int .i64 r7,.string r8])∧Kd.R Kd.string 9 w' w.heap.size (fun _=>True) v1_ r2∧Kd.R (Kd.int .u8) 5 w' w.heap.size (fun _=>True) v4_ r5∧Below w.heap.size w w':=by
 have hu31:=Tryz.underlying31
 have hu43:=Tryz.underlying43
 have hu29:=Tryz.underlying29
 have hu41:=Tryz.underlying41
 have hu24:=Tryz.underlying24
 have hu37:=Tryz.underlying37
 have HR0_1:=am_ hr0_1
 have HC0_1:=am_ hc0_1
 clear hr0_1 hc0_1
 have HR0_4:=am_ hr0_4
 have HC0_4:=am_ hc0_4
 clear hr0_4 hc0_4
 have HB:=h0_ w
 have H:((laws_toStore.f k l0_1 a0_2 a0_3 l0_4 a0_5).bind fun bt4=>((laws_toHead.f a0_6 a0_7).bind fun bt13=>(some (a0_0,bt4.1,bt4.2.1,bt4.2.2.1,bt4.2.2.2.1,bt4.2.2.2.2,bt13.1,bt13.2))))=some (r1,r2,r3,r4,r5,r6,r7,r8):=h
 clear h
 replace H:=bi_ H;obtain ⟨⟨t4,t7,t8,t9,t12⟩,A2,H⟩:=H
 dsimp only at H
 replace H:=bi_ H;obtain ⟨⟨t13,t14⟩,A3,H⟩:=H
 dsimp only at H
 replace H:=so8_ H;obtain ⟨rfl,rfl,rfl,rfl,rfl,rfl,rfl,rfl⟩:=H
 go_enter Tryz.func12,Tryz.ntmps12
 go_wp2_with (first|((with_reducible refine gd_ 1 ?_);refine bx_ 1 31 #[.int .i64 a0_0,.slice A0_1 l0_1.length c0_1,.int .i64 a0_2,.string a0_3,.slice A0_4 l0_4.length c0_4,.int .i64 a0_5,.int .i64 a0_6,.string a0_7] (hx_ HB ?_);clear HB;intro gb1 w4 BK1 GW1 HB;have GE1:=GW1)|((with_reducible refine gd_ 2 ?_);refine x43_ 2 ?_;intro gb2 hg w5 hbox hb;have BK2:=am_ hbox;have GW2:=gg_ hg HB;have GE2:=GW2;replace HB:=ss_ HB hb;have NB1_2:=nla_ hg BK1;have NB2_1:=nga_ hg BK1;replace BK1:=kl_ BK1 hb;clear hb hbox hg)|((with_reducible refine gd_ 3 ?_);refine x43_ 3 ?_;intro gb3 hg w6 hbox hb;have BK3:=am_ hbox;have GW3:=gg_ hg HB;have GE3:=GW3;replace HB:=ss_ HB hb;have NB1_3:=nla_ hg BK1;have NB3_1:=nga_ hg BK1;replace BK1:=kl_ BK1 hb;have NB2_3:=nla_ hg BK2;have NB3_2:=nga_ hg BK2;replace BK2:=kl_ BK2 hb;clear hb hbox hg;have hnb7:=NB1_2.out;have hnc7:=NB2_1.out;have hnb8:=NB1_3.out;have hnc8:=NB3_1.out;have hcz9:=cz8_ BK1;have hnb10:=NB3_2.out;have hnc10:=NB2_3.out;have hcz11:=cz8_ BK3)|((with_reducible refine gq_ 41 9 ?_);refine gc_ 9 Tryz.func41 (laws_toStore.calls k _ _ l0_1 a0_2 a0_3 _ _ l0_4 a0_5 t4 t7 t8 t9 t12 _ (Kd.C_below HR0_1.out (bw_ HB)) HC0_1.out (Kd.C_below HR0_4.out (bw_ HB)) HC0_4.out A2.out) ?_;rintro e w12 ⟨v5,v10,rfl,ho0,ho1,hb⟩;refine ⟨_,rfl,?_⟩;have HO6:=rlo_ ho0 HB;have HO11:=rlo_ ho1 HB;replace BK1:=kp_ BK1 hb;replace BK2:=kp_ BK2 hb;replace BK3:=kp_ BK3 hb;replace HB:=ss_ HB hb;clear hb ho0 ho1;obtain ⟨Ao13,co13,eo13⟩:=Kd.R_slice HO6.out;subst eo13;have hcz14:=cz8_ BK3;obtain ⟨Ao15,co15,eo15⟩:=Kd.R_slice HO11.out;subst eo15;have hcz16:=cz8_ BK1)|((with_reducible refine gq_ 42 13 ?_);refine gc_ 13 Tryz.func42 (laws_toHead.calls a0_6 a0_7 t13 t14 _ A3.out) ?_;rintro e w17 ⟨rfl,hb⟩;refine ⟨_,rfl,?_⟩;replace HO6:=rbf_ HO6 BK3 hb;replace HO11:=rbf_ HO11 BK3 hb;replace BK1:=kp_ BK1 hb;replace BK2:=kp_ BK2 hb;replace BK3:=kp_ BK3 hb;replace HB:=ss_ HB hb;clear hb;have hcz18:=cz8_ BK3;have hcz19:=cz8_ BK2))
 refine bodyPost_ret (rcr_ gb2 43 #[.int .i64 a0_0,.slice Ao13 t4.length co13,.int .i64 t7,.string t8,.slice Ao15 t9.length co15,.int .i64 t12,.int .i64 t13,.string t14] BK2 Tryz.underlying43) rfl ?_
 exact ⟨_,_,e2_,kfm2_ HO6 BK3 BK2,kfm2_ HO11 BK3 BK2,bw_ HB⟩
def laws_eqMirror.f (k:Nat) (a0_0:Int) (l0_1:List ByteArray) (a0_2:Int) (a0_3:ByteArray) (l0_4:List Int) (a0_5:Int) (a0_6:Int) (a0_7:ByteArray) (a1_0:Int) (l1_1:List ByteArray) (a1_2:Int) (a1_3:ByteArray) (l1_4:List Int) (a1_5:Int) (a1_6:Int) (a1_7:ByteArray):Option (Bool):=if a0_0=a1_0 then ((laws_eqStore.f k l0_1 a0_2 a0_3 l0_4 a0_5 l1_1 a1_2 a1_3 l1_4 a1_5).bind fun t3=>(if t3=true then ((laws_eqHead.f a0_6 a0_7 a1_6 a1_7).bind fun t4=>(if t4=true then (some true) else (none))) else (none))) else (none)
theorem laws_eqMirror.calls (k:Nat) (a0_0:Int) (A0_1:Option Addr) (c0_1:Nat) (l0_1:List ByteArray) (a0_2:Int) (a0_3:ByteArray) (A0_4:Option Addr) (c0_4:Nat) (l0_4:List Int) (a0_5:Int) (a0_6:Int) (a0_7:ByteArray) (a1_0:Int) (A1_1:Option Addr) (c1_1:Nat) (l1_1:List ByteArray) (a1_2:Int) (a1_3:ByteArray) (A1_4:Option Addr) (c1_4:Nat) (l1_4:List Int) (a1_5:Int) (a1_6:Int) (a1_7:ByteArray) (r:Bool) (w:World) (hr0_1:Kd.C Kd.string w A0_1 l0_1.length l0_1) (hc0_1:l0_1.length≤c0_1) (hr0_4:Kd.C (Kd.int .u8) w A0_4 l0_4.length l0_4) (hc0_4:l0_4.length≤c0_4) (hr1_1:Kd.C Kd.string w A1_1 l1_1.length l1_1) (hc1_1:l1_1.length≤c1_1) (hr1_4:Kd.C (Kd.int .u8) w A1_4 l1_4.length l1_4) (hc1_4:l1_4.length≤c1_4) (h:laws_eqMirror.f k a0_0 l0_1 a0_2 a0_3 l0_4 a0_5 a0_6 a0_7 a1_0 l1_1 a1_2 a1_3 l1_4 a1_5 a1_6 a1_7=some r) :
  Calls Tryz.prog 16 #[.agg #[.int .i64 a0_0,.slice A0_1 l0_1.length c0_1,.int .i64 a0_2,.string a0_3,.slice A0_4 l0_4.length c0_4,.int .i64 a0_5,.int .i64 a0_6,.string a0_7],.agg #[.int .i64 a1_0,.slice A1_1 l1_1.length c1_1,.int .i64 a1_2,.string a1_3,.slice A1_4 l1_4.length c1_4,.int .i64 a1_5,.int .i64 a1_6,.string a1_7]] w fun e w'=>e = .returned (.bool r)∧Below w.heap.size w w':=by
 have hu43:=Tryz.underlying43
 have hu41:=Tryz.underlying41
 have hu37:=Tryz.underlying37
 have HR0_1:=am_ hr0_1
 have HC0_1:=am_ hc0_1
 clear hr0_1 hc0_1
 have HR0_4:=am_ hr0_4
 have HC0_4:=am_ hc0_4
 clear hr0_4 hc0_4
 have HR1_1:=am_ hr1_1
 have HC1_1:=am_ hc1_1
 clear hr1_1 hc1_1
 have HR1_4:=am_ hr1_4
 have HC1_4:=am_ hc1_4
 clear hr1_4 hc1_4
 have HB:=h0_ w
 have H:(if a0_0=a1_0 then ((laws_eqStore.f k l0_1 a0_2 a0_3 l0_4 a0_5 l1_1 a1_2 a1_3 l1_4 a1_5).bind fun t3=>(if t3=true then ((laws_eqHead.f a0_6 a0_7 a1_6 a1_7).bind fun t4=>(if t4=true then (some true) else (none))) else (none))) else (none))=some r:=h
 clear h
 replace H:=ip_ H;obtain ⟨c3,H⟩:=H
 have c3b0:(a0_0 == a1_0)=true:=beq_iff_eq.mpr c3
 have c3b1:(a0_0 != a1_0)=false:=bne_eq_false_iff_eq.mpr c3
 clear c3
 replace H:=bi_ H;obtain ⟨t3,A4,H⟩:=H
 replace H:=ipb_ H;obtain ⟨rfl,H⟩:=H
 replace H:=bi_ H;obtain ⟨t4,A6,H⟩:=H
 replace H:=ipb_ H;obtain ⟨rfl,H⟩:=H
 obtain rfl:=Option.some.inj H
 go_enter Tryz.func16,Tryz.ntmps16
 go_wp2_with (first|((with_reducible refine gd_ 2 ?_);refine bx_ 2 43 #[.int .i64 a0_0,.slice A0_1 l0_1.length c0_1,.int .i64 a0_2,.string a0_3,.slice A0_4 l0_4.length c0_4,.int .i64 a0_5,.int .i64 a0_6,.string a0_7] (hx_ HB ?_);clear HB;intro gb1 w8 BK1 GW1 HB;have GE1:=GW1)|((with_reducible refine gd_ 3 ?_);refine bx_ 3 43 #[.int .i64 a1_0,.slice A1_1 l1_1.length c1_1,.int .i64 a1_2,.string a1_3,.slice A1_4 l1_4.length c1_4,.int .i64 a1_5,.int .i64 a1_6,.string a1_7] ?_;intro gb2 hg w9 hbox hb;have BK2:=am_ hbox;have GW2:=gg_ hg HB;have GE2:=GW2;replace HB:=ss_ HB hb;have NB1_2:=nla_ hg BK1;have NB2_1:=nga_ hg BK1;replace BK1:=kl_ BK1 hb;clear hb hbox hg;have hnb10:=NB1_2.out;have hnc10:=NB2_1.out;have hcz11:=cz8_ BK1;have hcz12:=cz8_ BK2)|((with_reducible refine gq_ 45 14 ?_);refine gc_ 14 Tryz.func45 (laws_eqStore.calls k _ _ l0_1 a0_2 a0_3 _ _ l0_4 a0_5 _ _ l1_1 a1_2 a1_3 _ _ l1_4 a1_5 true _ (cb_ HR0_1 HB) HC0_1.out (cb_ HR0_4 HB) HC0_4.out (cb_ HR1_1 HB) HC1_1.out (cb_ HR1_4 HB) HC1_4.out A4.out) ?_;rintro e w13 ⟨rfl,hb⟩;refine ⟨_,rfl,?_⟩;replace BK1:=kl_ BK1 hb;replace BK2:=kl_ BK2 hb;replace HB:=ss_ HB hb;clear hb;have hcz14:=cz8_ BK1;have hcz15:=cz8_ BK2)|((with_reducible refine gq_ 46 20 ?_);refine gc_ 20 Tryz.func46 (laws_eqHead.calls a0_6 a0_7 a1_6 a1_7 true _ A6.out) ?_;rintro e w16 ⟨rfl,hb⟩;refine ⟨_,rfl,?_⟩;replace BK1:=kl_ BK1 hb;replace BK2:=kl_ BK2 hb;replace HB:=ss_ HB hb;clear hb))
 go_ret
 exact ⟨e2_,bw_ HB⟩
def laws_markText.l0:Nat->Int->ByteArray->Option (ByteArray)
 | 0,_,_=>none
 | k+1,x0,x3=>if x0 > 0 then ((some (([(wrap64 (48+(Int.tmod x0 10))) % 256]:List Int):List Int)).bind fun y601=>(if (strOfNums y601).size+x3.size≤9223372036854775807 then (laws_markText.l0 k (wrap64 (Int.tdiv x0 10)) ((strOfNums y601) ++ x3)) else (none))) else (if 1+x3.size≤9223372036854775807 then (some ((⟨#[109]⟩:ByteArray) ++ x3)) else (none))
def laws_markText.f (k:Nat) (a0:Int):Option (ByteArray):=if a0≤0 then (some (⟨#[109,48]⟩:ByteArray)) else (laws_markText.l0 k a0 (⟨#[]⟩:ByteArray))
theorem laws_markText.calls (k:Nat) (a0:Int) (r:ByteArray) (w:World) (h:laws_markText.f k a0=some r) :
  Calls Tryz.prog 48 #[.int .i64 a0] w fun e w'=>e = .returned (.string r)∧Below w.heap.size w w':=by
 have HB:=h0_ w
 have H:(if a0≤0 then (some (⟨#[109,48]⟩:ByteArray)) else (laws_markText.l0 k a0 (⟨#[]⟩:ByteArray)))=some r:=h
 clear h
 replace H:=itd_ H;obtain ⟨c2b0,H⟩|⟨c2b0,H⟩:=H
 ·obtain rfl:=Option.some.inj H
  go_enter Tryz.func48,Tryz.ntmps48
  go_wp2
  go_ret
  exact ⟨e2_,bw_ HB⟩
 ·have H':=am_ H
  clear H
  go_enter Tryz.func48,Tryz.ntmps48
  go_wp2
  go_loopg [0,3] k (fun kq v0 v3 w'=>∃ (x0_1:Int) (x3_1:ByteArray),v0 = .int .i64 x0_1∧v3 = .string x3_1∧Aside0 (laws_markText.l0 kq x0_1 x3_1=some r)∧Aside0 (kq≤k)∧Aside0 (Below w.heap.size w w'))
  case atStart => exact ⟨(a0),((⟨#[]⟩:ByteArray)),e1_,e1_,H',⟨Nat.le_refl _⟩,⟨bw_ HB⟩⟩
  case round =>
   clear H'
   try clear c2b0
   obtain ⟨x0_1,x3_1,rfl,rfl,HA,HK1,HB⟩:=hrel
   cases gk with
   | zero=>exact absurd HA.out (by simp [laws_markText.l0])
   | succ k1 =>
    have H:=HA.out
    clear HA
    simp only [laws_markText.l0] at H
    replace H:=it_ H;obtain ⟨c3,H⟩|⟨c3,H⟩:=H
    ·have c3b0:decide (0 < x0_1)=true:=decide_eq_true c3
     clear c3
     obtain ⟨y601,Ny1,H⟩:=sb_ (([(wrap64 (48+(Int.tmod x0_1 10))) % 256]:List Int)) H
     replace H:=ip_ H;obtain ⟨c4,H⟩:=H
     have c4b0:=eq_true c4
     have c4b1:=decide_eq_true c4
     try have c4b2:(9223372036854775807 < (strOfNums y601).size+x3_1.size)=False:=eq_false (Nat.not_lt.2 c4)
     have H':=am_ H
     clear H
     go_wp2_with (first|((with_reducible refine gd_ 12 ?_);refine rl_ (Kd.int .u8) 5 12 ([(wrap64 (48+(Int.tmod x0_1 10))) % 256]:List Int) [.int .u8 ((wrap64 (48+(Int.tmod x0_1 10))) % 256)] ?_;intro v2 w5 ho6 hb hg_ hnew_;clear hg_ hnew_;(first|rw [← Ny1.out] at ho6|(simp only [Int.reduceToNat] at ho6;rw [← Ny1.out] at ho6));have HO3:=rlo_ ho6 HB;replace HB:=ss_ HB hb;clear hb ho6;have hcv7:=own_string (P:=Tryz.prog) Tryz.underlying27 Tryz.underlying5 Tryz.underlying9 (Kd.own_of_R HO3.out)))
     go_roundg k1
     case measure => have:=HK1.out;omega
     case rel => exact ⟨(wrap64 (Int.tdiv x0_1 10)),((strOfNums y601) ++ x3_1),e1_,e1_,H',⟨by have:=HK1.out;omega⟩,⟨bw_ HB⟩⟩
    ·have c3b0:decide (0 < x0_1)=false:=decide_eq_false c3
     clear c3
     replace H:=ip_ H;obtain ⟨c8,H⟩:=H
     have c8b0:=eq_true c8
     have c8b1:=decide_eq_true c8
     try have c8b2:(9223372036854775807 < 1+x3_1.size)=False:=eq_false (Nat.not_lt.2 c8)
     obtain rfl:=Option.some.inj H
     go_wp2
     go_ret
     exact ⟨e2_,bw_ HB⟩
def laws_markStringS.l0:Nat->List ByteArray->Int->Int->Option (Int × List ByteArray)
 | 0,_,_,_=>none
 | k+1,x0,x1,x5=>if x5 < (x0.length:Int) then ((laws_markText.f k x1).bind fun t1=>(if 0≤x5 then (laws_markStringS.l0 k (x0.set (x5:Int).toNat t1) (wrap64 (x1+1)) (wrap64 (x5+1))) else (none))) else (some (x1,x0))
def laws_markStringS.f (k:Nat) (l0:List ByteArray) (a1:Int):Option (Int × List ByteArray):=laws_markStringS.l0 k l0 a1 0
theorem laws_markStringS.calls (k:Nat) (P0_:Nat->Prop) (u9000_:Value) (l0:List ByteArray) (a1:Int) (r1:Int) (r2:List ByteArray) (w0 w:World) (hB:Below w0.heap.size w0 w) (ho0:Kd.R Kd.string 9 w w0.heap.size P0_ u9000_ l0) (h:laws_markStringS.f k l0 a1=some (r1,r2)) :
  Calls Tryz.prog 49 #[u9000_,.int .i64 a1] w fun e w'=>e = .returned (.int .i64 r1)∧Kd.R Kd.string 9 w' w0.heap.size (fun k_=>(P0_ k_∨w.heap.size≤k_)) u9000_ r2∧Below w0.heap.size w0 w'∧Kept w w' (fun k_=>P0_ k_):=by
 have HO0:=am_ (show Kd.R Kd.string 9 w w0.heap.size (fun k_=>(P0_ k_∨w.heap.size≤k_)) u9000_ l0 from Kd.R_mono ho0 (fun k_ hk=>(.inl hk)))
 have HK:=am_ (Kept.refl w (fun k_=>P0_ k_))
 have HW0:=am_ hB.size
 have HB:=am_ hB
 clear hB
 have H:(laws_markStringS.l0 k l0 a1 0)=some (r1,r2):=h
 clear h
 have H':=am_ H
 clear H
 go_enter Tryz.func49,Tryz.ntmps49
 go_wp2
 go_loopg [1,5] k (fun kq v1 v5 w'=>∃ (x0_1:List ByteArray) (x1_1:Int) (x5_1:Int),v1 = .int .i64 x1_1∧v5 = .int .i64 x5_1∧Aside0 (laws_markStringS.l0 kq x0_1 x1_1 x5_1=some (r1,r2))∧Aside0 (kq≤k)∧Aside0 (Kd.R Kd.string 9 w' w0.heap.size (fun k_=>(P0_ k_∨w.heap.size≤k_)) u9000_ x0_1)∧Aside0 (Kept w w' (fun k_=>P0_ k_))∧Aside0 (Below w0.heap.size w0 w'))
 case atStart => exact ⟨(l0),(a1),(0),e1_,e1_,H',⟨Nat.le_refl _⟩,⟨kr_ HO0.out⟩,⟨kt_ HK⟩,⟨bw_ HB⟩⟩
 case round =>
  clear H'
  obtain ⟨x0_1,x1_1,x5_1,rfl,rfl,HA,HK1,HO_0,HK,HB⟩:=hrel
  cases gk with
  | zero=>exact absurd HA.out (by simp [laws_markStringS.l0])
  | succ k1 =>
   have H:=HA.out
   clear HA
   simp only [laws_markStringS.l0] at H
   replace H:=itd_ H;obtain ⟨c3b0,H⟩|⟨c3b0,H⟩:=H
   ·replace H:=bi_ H;obtain ⟨t1,A4,H⟩:=H
    replace H:=ipd_ H;obtain ⟨c5b0,H⟩:=H
    obtain ⟨y602,hy2⟩:∃ y_:List ByteArray,y_=(x0_1.set (x5_1:Int).toNat t1):=⟨_,rfl⟩
    replace H:(laws_markStringS.l0 k1 y602 (wrap64 (x1_1+1)) (wrap64 (x5_1+1)))=some (r1,r2):=yh_ hy2 H
    have Ny2:=am_ hy2
    clear hy2
    have H':=am_ H
    clear H
    obtain ⟨Ao7,co7,eo7⟩:=Kd.R_slice HO_0.out
    subst eo7
    go_wp2_with (first|((with_reducible refine gq_ 48 15 ?_);refine gc_ 15 Tryz.func48 (laws_markText.calls k1 x1_1 t1 _ A4.out) ?_;rintro e w8 ⟨rfl,hb⟩;refine ⟨_,rfl,?_⟩;replace HO_0:=rb_ HO_0 hb;replace HK:=am_ (Kept.below (S:=(fun k_=>P0_ k_)) (kt_ HK) hb);replace HB:=ss_ HB hb;clear hb;have p6:0≤(x5_1:Int):=od_;have q6:(x5_1:Int) < ((x0_1.length:Int):Int):=od_;obtain ⟨go6,co6,eo6,gb6,gl6,cl6,HG6⟩:=Kd.R_form HO_0.out (by omega);(first|cases eo6|(injection eo6 with ea_ en_ ec_;(first|subst ea_|(injection ea_ with ea_;subst ea_));subst ec_;clear en_));have GB6:=am_ gb6;have GG6:=am_ HG6;clear gb6 gl6 HG6;have HMgo6:=am_ (show (P0_ go6∨w.heap.size≤go6) from (HO_0.out.1 _ rfl));obtain ⟨hx6_0,hf6_0⟩:=Kd.R_celln (⟨#[]⟩:ByteArray) HO_0.out (x5_1:Int) p6 q6;replace p6:=eq_true p6;replace q6:=eq_true q6;obtain ⟨hy9_,hz9_⟩:=Kd.R_celln (⟨#[]⟩:ByteArray) HO_0.out (x5_1:Int) (od_) (od_);have HP9:=Kd.R_putg HO_0.out (x5_1:Int) t1)|((with_reducible refine gate_store (t:=9) (p:=16) rfl ?_);refine store_event (t:=9) (p:=16) (v:=?vo_w10) (w1:=(w8.setCell ⟨go6,(x5_1:Int).toNat,none⟩ (.string t1))) ?hg ?ho ?hn ?hr ?_;(case ho=>rfl);(case hg=>rfl);(case hn=>rfl);(case hr=>first|(go_simp;done)|(go_simp;rfl));intro w10 hw;have hg:w8.grownBy w10 (some go6):=(by rw [hw];exact HP9.2);have hp_:Kd.R Kd.string 9 w10 w0.heap.size (fun k_=>(P0_ k_∨w.heap.size≤k_)) (.slice (some ⟨go6,0,none⟩) x0_1.length co7) y602:=(by rw [hw,Ny2.out];exact HP9.1);clear HP9;replace HB:=am_ ((by rw [hw];exact below_set (HB.out) GB6.out:Below w0.heap.size w0 w10));replace HK:=am_ (Kept.of_grown (S:=(fun k_=>P0_ k_)) hg (kt_ HK) (fun k_ e_=>(HO_0.out.1 k_ e_)));replace HO_0:=am_ hp_;clear hg hw hp_))
    go_roundg k1
    case measure => have:=HK1.out;omega
    case rel => exact ⟨(y602),(wrap64 (x1_1+1)),(wrap64 (x5_1+1)),e1_,e1_,H',⟨by have:=HK1.out;omega⟩,⟨kr_ HO_0.out⟩,⟨kt_ HK⟩,⟨bw_ HB⟩⟩
   ·replace H:=so2_ H;obtain ⟨rfl,rfl⟩:=H
    obtain ⟨Ao11,co11,eo11⟩:=Kd.R_slice HO_0.out
    subst eo11
    go_wp2
    go_ret
    exact ⟨e2_,kr_ HO_0.out,bw_ HB,kt_ HK⟩
def laws_markLog.f (k:Nat) (l0_0:List ByteArray) (a0_1:Int) (a0_2:ByteArray) (a1:Int):Option (Int × List ByteArray):=(laws_markStringS.f k l0_0 a1).bind fun bt2=>(some (bt2.1,bt2.2))
theorem laws_markLog.calls (k:Nat) (P0_0_:Nat->Prop) (u9000_:Value) (l0_0:List ByteArray) (a0_1:Int) (a0_2:ByteArray) (a1:Int) (r1:Int) (r2:List ByteArray) (w0 w:World) (hB:Below w0.heap.size w0 w) (ho0_0:Kd.R Kd.string 9 w w0.heap.size P0_0_ u9000_ l0_0) (h:laws_markLog.f k l0_0 a0_1 a0_2 a1=some (r1,r2)) :
  Calls Tryz.prog 84 #[.agg #[u9000_,.int .i64 a0_1,.string a0_2],.int .i64 a1] w fun e w'=>e = .returned (.int .i64 r1)∧Kd.R Kd.string 9 w' w0.heap.size (fun k_=>(P0_0_ k_∨w.heap.size≤k_)) u9000_ r2∧Below w0.heap.size w0 w'∧Kept w w' (fun k_=>P0_0_ k_):=by
 have hu39:=Tryz.underlying39
 have HO0_0:=am_ (show Kd.R Kd.string 9 w w0.heap.size (fun k_=>(P0_0_ k_∨w.heap.size≤k_)) u9000_ l0_0 from Kd.R_mono ho0_0 (fun k_ hk=>(.inl hk)))
 have HK:=am_ (Kept.refl w (fun k_=>P0_0_ k_))
 have HW0:=am_ hB.size
 have HB:=am_ hB
 clear hB
 have H:((laws_markStringS.f k l0_0 a1).bind fun bt2=>(some (bt2.1,bt2.2)))=some (r1,r2):=h
 clear h
 replace H:=bi_ H;obtain ⟨⟨t602,t3⟩,A3,H⟩:=H
 dsimp only at H
 replace H:=so2_ H;obtain ⟨rfl,rfl⟩:=H
 obtain ⟨Ao4,co4,eo4⟩:=Kd.R_slice HO0_0.out
 subst eo4
 go_enter Tryz.func84,Tryz.ntmps84
 go_wp2_with (first|((with_reducible refine gd_ 2 ?_);refine bx_ 2 39 #[.slice Ao4 l0_0.length co4,.int .i64 a0_1,.string a0_2] ?_;intro gb1 hg w5 hbox hb;replace HO0_0:=rb_ HO0_0 hb;have BK1:=am_ hbox;have GW1:=am_ ((by rw [hg];exact (by first|exact HK.out.1|exact (show Kept w _ (fun k_=>P0_0_ k_) from kt_ HK).1):w.heap.size≤gb1));replace HK:=am_ (Kept.below (S:=(fun k_=>P0_0_ k_)) (kt_ HK) hb);have GE1:=gg_ hg HB;replace HB:=ss_ HB hb;clear hb hbox hg;have hz6:=cz3_ BK1)|((with_reducible refine gq_ 49 8 ?_);refine gc_ 8 Tryz.func49 (laws_markStringS.calls k (fun k_=>some k_=(.slice Ao4 l0_0.length co4:Value).ownBlock) (.slice Ao4 l0_0.length co4) l0_0 a1 t602 t3 w0 _ (bw_ HB) (Kd.R_tight rfl HO0_0.out) A3.out) ?_;rintro e w7 ⟨rfl,hy0,hb,hkp⟩;refine ⟨_,rfl,?_⟩;replace BK1:=am_ (blk_kept (kb_ BK1.out) hkp (fun hs_=>(fun e_=>(Kd.R_ne HO0_0.out BK1.out (by decide)) e_) hs_));replace HK:=am_ (Kept.then_ (S:=(fun k_=>P0_0_ k_)) (by repeat (first|(with_reducible first|exact HK.out|apply Kept.alloc|apply Kept.drewN|apply Kept.drew|refine Kept.setCell ?_ (.inr GW1.out) _)|exact HK.out)) hkp (fun k_ hs_=>(fun e_=>(HO0_0.out.1 k_ e_.symm)) hs_));replace HO0_0:=am_ (Kd.R_reok rfl hy0 (fun k_ e_=>HO0_0.out.1 k_ e_));replace HB:=am_ hb;clear hb hkp hy0))
 go_ret
 exact ⟨e2_,kr_ HO0_0.out,bw_ HB,by repeat (first|(with_reducible first|exact HK.out|apply Kept.alloc|apply Kept.drewN|apply Kept.drew|refine Kept.setCell ?_ (.inr GW1.out) _)|exact HK.out)⟩
def laws_markStore.f (k:Nat) (l0_0:List ByteArray) (a0_1:Int) (a0_2:ByteArray) (l0_3:List Int) (a0_4:Int) (a1:Int):Option (Int × List ByteArray × List Int):=(laws_markLog.f k l0_0 a0_1 a0_2 a1).bind fun bt2=>((laws_markByteS.f k l0_3 bt2.1).bind fun bt4=>(some (bt4.1,bt2.2,bt4.2)))
theorem laws_markStore.calls (k:Nat) (P0_0_:Nat->Prop) (u9000_:Value) (l0_0:List ByteArray) (a0_1:Int) (a0_2:ByteArray) (P0_3_:Nat->Prop) (u9001_:Value) (l0_3:List Int) (a0_4:Int) (a1:Int) (r1:Int) (r2:List ByteArray) (r3:List Int) (w0 w:World) (hB:Below w0.heap.size w0 w) (ho0_0:Kd.R Kd.string 9 w w0.heap.size P0_0_ u9000_ l0_0) (ho0_3:Kd.R (Kd.int .u8) 5 w w0.heap.size P0_3_ u9001_ l0_3) (h:laws_markStore.f k l0_0 a0_1 a0_2 l0_3 a0_4 a1=some (r1,r2,r3)) :
  Calls Tryz.prog 47 #[.agg #[u9000_,.int .i64 a0_1,.string a0_2,u9001_,.int .i64 a0_4],.int .i64 a1] w fun e w'=>e = .returned (.int .i64 r1)∧Kd.R Kd.string 9 w' w0.heap.size (fun k_=>((P0_0_ k_∨P0_3_ k_)∨w.heap.size≤k_)) u9000_ r2∧Kd.R (Kd.int .u8) 5 w' w0.heap.size (fun k_=>((P0_0_ k_∨P0_3_ k_)∨w.heap.size≤k_)) u9001_ r3∧Below w0.heap.size w0 w'∧Kept w w' (fun k_=>P0_0_ k_∨P0_3_ k_):=by
 have hu41:=Tryz.underlying41
 have hu39:=Tryz.underlying39
 have HO0_0:=am_ (show Kd.R Kd.string 9 w w0.heap.size (fun k_=>((P0_0_ k_∨P0_3_ k_)∨w.heap.size≤k_)) u9000_ l0_0 from Kd.R_mono ho0_0 (fun k_ hk=>(.inl (.inl hk))))
 have HO0_3:=am_ (show Kd.R (Kd.int .u8) 5 w w0.heap.size (fun k_=>((P0_0_ k_∨P0_3_ k_)∨w.heap.size≤k_)) u9001_ l0_3 from Kd.R_mono ho0_3 (fun k_ hk=>(.inl (.inr hk))))
 have HK:=am_ (Kept.refl w (fun k_=>P0_0_ k_∨P0_3_ k_))
 have HW0:=am_ hB.size
 have HB:=am_ hB
 clear hB
 have H:((laws_markLog.f k l0_0 a0_1 a0_2 a1).bind fun bt2=>((laws_markByteS.f k l0_3 bt2.1).bind fun bt4=>(some (bt4.1,bt2.2,bt4.2))))=some (r1,r2,r3):=h
 clear h
 replace H:=bi_ H;obtain ⟨⟨t602,t3⟩,A3,H⟩:=H
 dsimp only at H
 replace H:=bi_ H;obtain ⟨⟨t4,t5⟩,A4,H⟩:=H
 dsimp only at H
 replace H:=so3_ H;obtain ⟨rfl,rfl,rfl⟩:=H
 obtain ⟨Ao5,co5,eo5⟩:=Kd.R_slice HO0_0.out
 subst eo5
 obtain ⟨Ao6,co6,eo6⟩:=Kd.R_slice HO0_3.out
 subst eo6
 go_enter Tryz.func47,Tryz.ntmps47
 go_wp2_with (first|((with_reducible refine gd_ 2 ?_);refine bx_ 2 41 #[.slice Ao5 l0_0.length co5,.int .i64 a0_1,.string a0_2,.slice Ao6 l0_3.length co6,.int .i64 a0_4] ?_;intro gb1 hg w7 hbox hb;replace HO0_0:=rb_ HO0_0 hb;replace HO0_3:=rb_ HO0_3 hb;have BK1:=am_ hbox;have GW1:=am_ ((by rw [hg];exact (by first|exact HK.out.1|exact (show Kept w _ (fun k_=>P0_0_ k_∨P0_3_ k_) from kt_ HK).1):w.heap.size≤gb1));replace HK:=am_ (Kept.below (S:=(fun k_=>P0_0_ k_∨P0_3_ k_)) (kt_ HK) hb);have GE1:=gg_ hg HB;replace HB:=ss_ HB hb;clear hb hbox hg;have hz8:=cz5_ BK1)|((with_reducible refine gq_ 84 8 ?_);refine gc_ 8 Tryz.func84 (laws_markLog.calls k (fun k_=>some k_=(.slice Ao5 l0_0.length co5:Value).ownBlock) (.slice Ao5 l0_0.length co5) l0_0 a0_1 a0_2 a1 t602 t3 w0 _ (bw_ HB) (Kd.R_tight rfl HO0_0.out) A3.out) ?_;rintro e w9 ⟨rfl,hy0,hb,hkp⟩;refine ⟨_,rfl,?_⟩;replace HO0_3:=am_ (Kd.R_mono (ok':=fun k_=>((P0_0_ k_∨P0_3_ k_)∨w.heap.size≤k_)) (Kd.R_keptB ((Kd.R_apart' HO0_3.out (Kd.R_typed HO0_0.out) (by decide))) hkp (fun k_ hk_ hs_=>(hk_.2) hs_)) (fun k_ hk_=>hk_.1.1));replace BK1:=am_ (blk_kept (kb_ BK1.out) hkp (fun hs_=>(fun e_=>(Kd.R_ne HO0_0.out BK1.out (by decide)) e_) hs_));replace HK:=am_ (Kept.then_ (S:=(fun k_=>P0_0_ k_∨P0_3_ k_)) (by repeat (first|(with_reducible first|exact HK.out|apply Kept.alloc|apply Kept.drewN|apply Kept.drew|refine Kept.setCell ?_ (.inr GW1.out) _)|exact HK.out)) hkp (fun k_ hs_=>(fun e_=>(HO0_0.out.1 k_ e_.symm)) hs_));replace HO0_0:=am_ (Kd.R_reok rfl hy0 (fun k_ e_=>HO0_0.out.1 k_ e_));replace HB:=am_ hb;clear hb hkp hy0;have hz10:=cz5_ BK1)|((with_reducible refine gq_ 85 12 ?_);refine gc_ 12 Tryz.func85 (laws_markByteS.calls k (fun k_=>some k_=(.slice Ao6 l0_3.length co6:Value).ownBlock) (.slice Ao6 l0_3.length co6) l0_3 t602 t4 t5 w0 _ (bw_ HB) (Kd.R_tight rfl HO0_3.out) A4.out) ?_;rintro e w11 ⟨rfl,hy0,hb,hkp⟩;refine ⟨_,rfl,?_⟩;replace HO0_0:=am_ (Kd.R_mono (ok':=fun k_=>((P0_0_ k_∨P0_3_ k_)∨w.heap.size≤k_)) (Kd.R_keptB ((Kd.R_apart' HO0_0.out (Kd.R_typed HO0_3.out) (by decide))) hkp (fun k_ hk_ hs_=>(hk_.2) hs_)) (fun k_ hk_=>hk_.1.1));replace BK1:=am_ (blk_kept (kb_ BK1.out) hkp (fun hs_=>(fun e_=>(Kd.R_ne HO0_3.out BK1.out (by decide)) e_) hs_));replace HK:=am_ (Kept.then_ (S:=(fun k_=>P0_0_ k_∨P0_3_ k_)) (by repeat (first|(with_reducible first|exact HK.out|apply Kept.alloc|apply Kept.drewN|apply Kept.drew|refine Kept.setCell ?_ (.inr GW1.out) _)|exact HK.out)) hkp (fun k_ hs_=>(fun e_=>(HO0_3.out.1 k_ e_.symm)) hs_));replace HO0_3:=am_ (Kd.R_reok rfl hy0 (fun k_ e_=>HO0_3.out.1 k_ e_));replace HB:=am_ hb;clear hb hkp hy0))
 go_ret
 exact ⟨e2_,kr_ HO0_0.out,kr_ HO0_3.out,bw_ HB,by repeat (first|(with_reducible first|exact HK.out|apply Kept.alloc|apply Kept.drewN|apply Kept.drew|refine Kept.setCell ?_ (.inr GW1.out) _)|exact HK.out)⟩
def laws_markMirror.f (k:Nat) (a0_0:Int) (l0_1:List ByteArray) (a0_2:Int) (a0_3:ByteArray) (l0_4:List Int) (a0_5:Int) (a0_6:Int) (a0_7:ByteArray) (a1:Int):Option (Int × List ByteArray × List Int):=(laws_markStore.f k l0_1 a0_2 a0_3 l0_4 a0_5 a1).bind fun bt2=>(some (bt2.1,bt2.2.1,bt2.2.2))
theorem laws_markMirror.calls (k:Nat) (a0_0:Int) (P0_1_:Nat->Prop) (u9000_:Value) (l0_1:List ByteArray) (a0_2:Int) (a0_3:ByteArray) (P0_4_:Nat->Prop) (u9001_:Value) (l0_4:List Int) (a0_5:Int) (a0_6:Int) (a0_7:ByteArray) (a1:Int) (r1:Int) (r2:List ByteArray) (r3:List Int) (w0 w:World) (hB:Below w0.heap.size w0 w) (ho0_1:Kd.R Kd.string 9 w w0.heap.size P0_1_ u9000_ l0_1) (ho0_4:Kd.R (Kd.int .u8) 5 w w0.heap.size P0_4_ u9001_ l0_4) (h:laws_markMirror.f k a0_0 l0_1 a0_2 a0_3 l0_4 a0_5 a0_6 a0_7 a1=some (r1,r2,r3)) :
  Calls Tryz.prog 18 #[.agg #[.int .i64 a0_0,u9000_,.int .i64 a0_2,.string a0_3,u9001_,.int .i64 a0_5,.int .i64 a0_6,.string a0_7],.int .i64 a1] w fun e w'=>e = .returned (.int .i64 r1)∧Kd.R Kd.string 9 w' w0.heap.size (fun k_=>((P0_1_ k_∨P0_4_ k_)∨w.heap.size≤k_)) u9000_ r2∧Kd.R (Kd.int .u8) 5 w' w0.heap.size (fun k_=>((P0_1_ k_∨P0_4_ k_)∨w.heap.size≤k_)) u9001_ r3∧Below w0.heap.size w0 w'∧Kept w w' (fun k_=>P0_1_ k_∨P0_4_ k_):=by
 have hu43:=Tryz.underlying43
 have hu41:=Tryz.underlying41
 have HO0_1:=am_ (show Kd.R Kd.string 9 w w0.heap.size (fun k_=>((P0_1_ k_∨P0_4_ k_)∨w.heap.size≤k_)) u9000_ l0_1 from Kd.R_mono ho0_1 (fun k_ hk=>(.inl (.inl hk))))
 have HO0_4:=am_ (show Kd.R (Kd.int .u8) 5 w w0.heap.size (fun k_=>((P0_1_ k_∨P0_4_ k_)∨w.heap.size≤k_)) u9001_ l0_4 from Kd.R_mono ho0_4 (fun k_ hk=>(.inl (.inr hk))))
 have HK:=am_ (Kept.refl w (fun k_=>P0_1_ k_∨P0_4_ k_))
 have HW0:=am_ hB.size
 have HB:=am_ hB
 clear hB
 have H:((laws_markStore.f k l0_1 a0_2 a0_3 l0_4 a0_5 a1).bind fun bt2=>(some (bt2.1,bt2.2.1,bt2.2.2)))=some (r1,r2,r3):=h
 clear h
 replace H:=bi_ H;obtain ⟨⟨t602,t3,t4⟩,A3,H⟩:=H
 dsimp only at H
 replace H:=so3_ H;obtain ⟨rfl,rfl,rfl⟩:=H
 obtain ⟨Ao4,co4,eo4⟩:=Kd.R_slice HO0_1.out
 subst eo4
 obtain ⟨Ao5,co5,eo5⟩:=Kd.R_slice HO0_4.out
 subst eo5
 go_enter Tryz.func18,Tryz.ntmps18
 go_wp2_with (first|((with_reducible refine gd_ 2 ?_);refine bx_ 2 43 #[.int .i64 a0_0,.slice Ao4 l0_1.length co4,.int .i64 a0_2,.string a0_3,.slice Ao5 l0_4.length co5,.int .i64 a0_5,.int .i64 a0_6,.string a0_7] ?_;intro gb1 hg w6 hbox hb;replace HO0_1:=rb_ HO0_1 hb;replace HO0_4:=rb_ HO0_4 hb;have BK1:=am_ hbox;have GW1:=am_ ((by rw [hg];exact (by first|exact HK.out.1|exact (show Kept w _ (fun k_=>P0_1_ k_∨P0_4_ k_) from kt_ HK).1):w.heap.size≤gb1));replace HK:=am_ (Kept.below (S:=(fun k_=>P0_1_ k_∨P0_4_ k_)) (kt_ HK) hb);have GE1:=gg_ hg HB;replace HB:=ss_ HB hb;clear hb hbox hg;have hcz7:=cz8_ BK1)|((with_reducible refine gq_ 47 8 ?_);refine gc_ 8 Tryz.func47 (laws_markStore.calls k (fun k_=>some k_=(.slice Ao4 l0_1.length co4:Value).ownBlock) (.slice Ao4 l0_1.length co4) l0_1 a0_2 a0_3 (fun k_=>some k_=(.slice Ao5 l0_4.length co5:Value).ownBlock) (.slice Ao5 l0_4.length co5) l0_4 a0_5 a1 t602 t3 t4 w0 _ (bw_ HB) (Kd.R_tight rfl HO0_1.out) (Kd.R_tight rfl HO0_4.out) A3.out) ?_;rintro e w8 ⟨rfl,hy0,hy1,hb,hkp⟩;refine ⟨_,rfl,?_⟩;replace BK1:=am_ (blk_kept (kb_ BK1.out) hkp (fun hs_=>Or.elim hs_ (fun e_=>(fun e_=>(Kd.R_ne HO0_1.out BK1.out (by decide)) e_) e_) (fun e_=>(fun e_=>(Kd.R_ne HO0_4.out BK1.out (by decide)) e_) e_)));replace HK:=am_ (Kept.then_ (S:=(fun k_=>P0_1_ k_∨P0_4_ k_)) (by repeat (first|(with_reducible first|exact HK.out|apply Kept.alloc|apply Kept.drewN|apply Kept.drew|refine Kept.setCell ?_ (.inr GW1.out) _)|exact HK.out)) hkp (fun k_ hs_=>Or.elim hs_ (fun e_=>(fun e_=>(HO0_1.out.1 k_ e_.symm)) e_) (fun e_=>(fun e_=>(HO0_4.out.1 k_ e_.symm)) e_)));replace HO0_1:=am_ (Kd.R_reok rfl hy0 (fun k_ e_=>HO0_1.out.1 k_ e_));replace HO0_4:=am_ (Kd.R_reok rfl hy1 (fun k_ e_=>HO0_4.out.1 k_ e_));replace HB:=am_ hb;clear hb hkp hy0 hy1))
 go_ret
 exact ⟨e2_,kr_ HO0_1.out,kr_ HO0_4.out,bw_ HB,by repeat (first|(with_reducible first|exact HK.out|apply Kept.alloc|apply Kept.drewN|apply Kept.drew|refine Kept.setCell ?_ (.inr GW1.out) _)|exact HK.out)⟩
def laws_heldStringS.l0:Nat->List ByteArray->Int->Int->Option (Int)
 | 0,_,_,_=>none
 | k+1,x0,x1,x5=>if x5 < (x0.length:Int) then (if 0≤x5 then ((laws_markText.f k x1).bind fun t602=>(if (rdOf ByteArray.empty x0 x5).toList=t602.toList then (laws_heldStringS.l0 k x0 (wrap64 (x1+1)) (wrap64 (x5+1))) else (some (-1)))) else (none)) else (some x1)
def laws_heldStringS.f (k:Nat) (l0:List ByteArray) (a1:Int):Option (Int):=laws_heldStringS.l0 k l0 a1 0
theorem laws_heldStringS.calls (k:Nat) (A0:Option Addr) (c0:Nat) (l0:List ByteArray) (a1:Int) (r:Int) (w:World) (hr0:Kd.C Kd.string w A0 l0.length l0) (hc0:l0.length≤c0) (h:laws_heldStringS.f k l0 a1=some r) :
  Calls Tryz.prog 50 #[.slice A0 l0.length c0,.int .i64 a1] w fun e w'=>e = .returned (.int .i64 r)∧Below w.heap.size w w':=by
 have HR0:=am_ hr0
 have HC0:=am_ hc0
 clear hr0 hc0
 have HB:=h0_ w
 have H:(laws_heldStringS.l0 k l0 a1 0)=some r:=h
 clear h
 have H':=am_ H
 clear H
 go_enter Tryz.func50,Tryz.ntmps50
 go_wp2
 go_loopg [1,5] k (fun kq v1 v5 w'=>∃ (x1_1:Int) (x5_1:Int),v1 = .int .i64 x1_1∧v5 = .int .i64 x5_1∧Aside0 (laws_heldStringS.l0 kq l0 x1_1 x5_1=some r)∧Aside0 (kq≤k)∧Aside0 (Below w.heap.size w w'))
 case atStart => exact ⟨(a1),(0),e1_,e1_,H',⟨Nat.le_refl _⟩,⟨bw_ HB⟩⟩
 case round =>
  clear H'
  obtain ⟨x1_1,x5_1,rfl,rfl,HA,HK1,HB⟩:=hrel
  cases gk with
  | zero=>exact absurd HA.out (by simp [laws_heldStringS.l0])
  | succ k1 =>
   have H:=HA.out
   clear HA
   simp only [laws_heldStringS.l0] at H
   replace H:=itd_ H;obtain ⟨c3b0,H⟩|⟨c3b0,H⟩:=H
   ·replace H:=ipd_ H;obtain ⟨c4b0,H⟩:=H
    replace H:=bi_ H;obtain ⟨t602,A5,H⟩:=H
    replace H:=it_ H;obtain ⟨c6,H⟩|⟨c6,H⟩:=H
    ·have c6b0:((rdOf ByteArray.empty l0 x5_1).toList == t602.toList)=true:=beq_iff_eq.mpr c6
     have c6b1:((rdOf ByteArray.empty l0 x5_1).toList != t602.toList)=false:=bne_eq_false_iff_eq.mpr c6
     clear c6
     have H':=am_ H
     clear H
     try go_wp2
     replace HB:=hd_ HB
     have p601:0≤(x5_1:Int):=od_
     have q1:x5_1 < (l0.length:Int):=od_
     obtain ⟨ad1,e601,hx1_0⟩:=Kd.at_string HR0.out x5_1 p601 q1
     have hw1_0:=hx1_0
     cases e601
     replace hx1_0:=cw_ HB hx1_0
     replace p601:=eq_true p601
     replace q1:=eq_true q1
     refine start_ (n:=7) (S:=fun w'=>w'.cell? (ad1.add (x5_1).toNat)=some (.string (rdOf ByteArray.empty l0 x5_1))) (ds:=[]) (lz_ 7 0) (by kernel_rfl) rfl rfl ((cw_ HB hw1_0)) (fun hHeld=>?_)
     generalize wr.drew=w7 at HB hx1_0 hHeld ⊢
     refine pk_ 0 12 1 ?_
     refine pk_ 1 13 3 ?_
     refine pk_ 2 14 7 ?_
     refine pk_ 4 16 23 ?_
     refine tk_ 3 15 31 ?_
     refine one_ (i:=5) (N:=some 17) (lz_ 7 63) rfl rfl (by kernel_rfl) (by decide) (fun K hK=>?_)
     refine gf_ Tryz.func48 (laws_markText.calls k1 x1_1 t602 _ A5.out) ?_
     rintro e w8 ⟨rfl,hb⟩
     refine ⟨_,rfl,?_⟩
     replace HB:=ss_ HB hb
     clear hb
     refine hK.out _ _ ((cw_ HB hw1_0)) (fun hHeld=>?_)
     clear hK K
     refine no_ 17 ?_
     refine pk_ 6 18 127 ?_
     refine done_ (by kernel_rfl) ?_
     try go_wp2
     go_roundg k1
     case measure => have:=HK1.out;omega
     case rel => exact ⟨(wrap64 (x1_1+1)),(wrap64 (x5_1+1)),e1_,e1_,H',⟨by have:=HK1.out;omega⟩,⟨bw_ HB⟩⟩
    ·have c6b0:((rdOf ByteArray.empty l0 x5_1).toList == t602.toList)=false:=beq_eq_false_iff_ne.mpr c6
     have c6b1:((rdOf ByteArray.empty l0 x5_1).toList != t602.toList)=true:=bne_iff_ne.mpr c6
     obtain rfl:=Option.some.inj H
     try go_wp2
     replace HB:=hd_ HB
     have p601:0≤(x5_1:Int):=od_
     have q1:x5_1 < (l0.length:Int):=od_
     obtain ⟨ad1,e601,hx1_0⟩:=Kd.at_string HR0.out x5_1 p601 q1
     have hw1_0:=hx1_0
     cases e601
     replace hx1_0:=cw_ HB hx1_0
     replace p601:=eq_true p601
     replace q1:=eq_true q1
     refine start_ (n:=7) (S:=fun w'=>w'.cell? (ad1.add (x5_1).toNat)=some (.string (rdOf ByteArray.empty l0 x5_1))) (ds:=[]) (lz_ 7 0) (by kernel_rfl) rfl rfl ((cw_ HB hw1_0)) (fun hHeld=>?_)
     generalize wr.drew=w9 at HB hx1_0 hHeld ⊢
     refine pk_ 0 12 1 ?_
     refine pk_ 1 13 3 ?_
     refine pk_ 2 14 7 ?_
     refine pk_ 4 16 23 ?_
     refine tk_ 3 15 31 ?_
     refine one_ (i:=5) (N:=some 17) (lz_ 7 63) rfl rfl (by kernel_rfl) (by decide) (fun K hK=>?_)
     refine gf_ Tryz.func48 (laws_markText.calls k1 x1_1 t602 _ A5.out) ?_
     rintro e w10 ⟨rfl,hb⟩
     refine ⟨_,rfl,?_⟩
     replace HB:=ss_ HB hb
     clear hb
     refine hK.out _ _ ((cw_ HB hw1_0)) (fun hHeld=>?_)
     clear hK K
     refine no_ 17 ?_
     refine pk_ 6 18 127 ?_
     refine done_ (by kernel_rfl) ?_
     try go_wp2
     go_ret
     exact ⟨e2_,bw_ HB⟩
   ·obtain rfl:=Option.some.inj H
    go_wp2
    go_ret
    exact ⟨e2_,bw_ HB⟩
def laws_heldLog.f (k:Nat) (l0_0:List ByteArray) (a0_1:Int) (a0_2:ByteArray) (a1:Int):Option (Int):=(laws_heldStringS.f k l0_0 a1).bind fun t602=>(if t602 < 0 then (some (-1)) else (some t602))
theorem laws_heldLog.calls (k:Nat) (A0_0:Option Addr) (c0_0:Nat) (l0_0:List ByteArray) (a0_1:Int) (a0_2:ByteArray) (a1:Int) (r:Int) (w:World) (hr0_0:Kd.C Kd.string w A0_0 l0_0.length l0_0) (hc0_0:l0_0.length≤c0_0) (h:laws_heldLog.f k l0_0 a0_1 a0_2 a1=some r) :
  Calls Tryz.prog 104 #[.agg #[.slice A0_0 l0_0.length c0_0,.int .i64 a0_1,.string a0_2],.int .i64 a1] w fun e w'=>e = .returned (.int .i64 r)∧Below w.heap.size w w':=by
 have hu39:=Tryz.underlying39
 have HR0_0:=am_ hr0_0
 have HC0_0:=am_ hc0_0
 clear hr0_0 hc0_0
 have HB:=h0_ w
 have H:((laws_heldStringS.f k l0_0 a1).bind fun t602=>(if t602 < 0 then (some (-1)) else (some t602)))=some r:=h
 clear h
 replace H:=bi_ H;obtain ⟨t602,A3,H⟩:=H
 replace H:=itd_ H;obtain ⟨c4b0,H⟩|⟨c4b0,H⟩:=H
 ·obtain rfl:=Option.some.inj H
  go_enter Tryz.func104,Tryz.ntmps104
  go_wp2_with (first|((with_reducible refine gd_ 2 ?_);refine bx_ 2 39 #[.slice A0_0 l0_0.length c0_0,.int .i64 a0_1,.string a0_2] (hx_ HB ?_);clear HB;intro gb1 w5 BK1 GW1 HB;have GE1:=GW1;have hz6:=cz3_ BK1)|((with_reducible refine gq_ 50 8 ?_);refine gc_ 8 Tryz.func50 (laws_heldStringS.calls k _ _ l0_0 a1 t602 _ (cb_ HR0_0 HB) HC0_0.out A3.out) ?_;rintro e w7 ⟨rfl,hb⟩;refine ⟨_,rfl,?_⟩;replace BK1:=kl_ BK1 hb;replace HB:=ss_ HB hb;clear hb))
  go_ret
  exact ⟨e2_,bw_ HB⟩
 ·obtain rfl:=Option.some.inj H
  go_enter Tryz.func104,Tryz.ntmps104
  go_wp2_with (first|((with_reducible refine gd_ 2 ?_);refine bx_ 2 39 #[.slice A0_0 l0_0.length c0_0,.int .i64 a0_1,.string a0_2] (hx_ HB ?_);clear HB;intro gb1 w8 BK1 GW1 HB;have GE1:=GW1;have hz9:=cz3_ BK1)|((with_reducible refine gq_ 50 8 ?_);refine gc_ 8 Tryz.func50 (laws_heldStringS.calls k _ _ l0_0 a1 t602 _ (cb_ HR0_0 HB) HC0_0.out A3.out) ?_;rintro e w10 ⟨rfl,hb⟩;refine ⟨_,rfl,?_⟩;replace BK1:=kl_ BK1 hb;replace HB:=ss_ HB hb;clear hb))
  go_ret
  exact ⟨e2_,bw_ HB⟩
def laws_heldStore.f (k:Nat) (l0_0:List ByteArray) (a0_1:Int) (a0_2:ByteArray) (l0_3:List Int) (a0_4:Int) (a1:Int):Option (Int):=(laws_heldLog.f k l0_0 a0_1 a0_2 a1).bind fun t602=>(if t602 < 0 then (some (-1)) else ((laws_heldByteS.f k l0_3 t602).bind fun t3=>(if t3 < 0 then (some (-1)) else (some t3))))
theorem laws_heldStore.calls (k:Nat) (A0_0:Option Addr) (c0_0:Nat) (l0_0:List ByteArray) (a0_1:Int) (a0_2:ByteArray) (A0_3:Option Addr) (c0_3:Nat) (l0_3:List Int) (a0_4:Int) (a1:Int) (r:Int) (w:World) (hr0_0:Kd.C Kd.string w A0_0 l0_0.length l0_0) (hc0_0:l0_0.length≤c0_0) (hr0_3:Kd.C (Kd.int .u8) w A0_3 l0_3.length l0_3) (hc0_3:l0_3.length≤c0_3) (h:laws_heldStore.f k l0_0 a0_1 a0_2 l0_3 a0_4 a1=some r) :
  Calls Tryz.prog 67 #[.agg #[.slice A0_0 l0_0.length c0_0,.int .i64 a0_1,.string a0_2,.slice A0_3 l0_3.length c0_3,.int .i64 a0_4],.int .i64 a1] w fun e w'=>e = .returned (.int .i64 r)∧Below w.heap.size w w':=by
 have hu41:=Tryz.underlying41
 have hu39:=Tryz.underlying39
 have HR0_0:=am_ hr0_0
 have HC0_0:=am_ hc0_0
 clear hr0_0 hc0_0
 have HR0_3:=am_ hr0_3
 have HC0_3:=am_ hc0_3
 clear hr0_3 hc0_3
 have HB:=h0_ w
 have H:((laws_heldLog.f k l0_0 a0_1 a0_2 a1).bind fun t602=>(if t602 < 0 then (some (-1)) else ((laws_heldByteS.f k l0_3 t602).bind fun t3=>(if t3 < 0 then (some (-1)) else (some t3)))))=some r:=h
 clear h
 replace H:=bi_ H;obtain ⟨t602,A3,H⟩:=H
 replace H:=itd_ H;obtain ⟨c4b0,H⟩|⟨c4b0,H⟩:=H
 ·obtain rfl:=Option.some.inj H
  go_enter Tryz.func67,Tryz.ntmps67
  go_wp2_with (first|((with_reducible refine gd_ 2 ?_);refine bx_ 2 41 #[.slice A0_0 l0_0.length c0_0,.int .i64 a0_1,.string a0_2,.slice A0_3 l0_3.length c0_3,.int .i64 a0_4] (hx_ HB ?_);clear HB;intro gb1 w5 BK1 GW1 HB;have GE1:=GW1;have hz6:=cz5_ BK1)|((with_reducible refine gq_ 104 8 ?_);refine gc_ 8 Tryz.func104 (laws_heldLog.calls k _ _ l0_0 a0_1 a0_2 a1 t602 _ (cb_ HR0_0 HB) HC0_0.out A3.out) ?_;rintro e w7 ⟨rfl,hb⟩;refine ⟨_,rfl,?_⟩;replace BK1:=kl_ BK1 hb;replace HB:=ss_ HB hb;clear hb))
  go_ret
  exact ⟨e2_,bw_ HB⟩
 ·replace H:=bi_ H;obtain ⟨t3,A8,H⟩:=H
  replace H:=itd_ H;obtain ⟨c9b0,H⟩|⟨c9b0,H⟩:=H
  ·obtain rfl:=Option.some.inj H
   go_enter Tryz.func67,Tryz.ntmps67
   go_wp2_with (first|((with_reducible refine gd_ 2 ?_);refine bx_ 2 41 #[.slice A0_0 l0_0.length c0_0,.int .i64 a0_1,.string a0_2,.slice A0_3 l0_3.length c0_3,.int .i64 a0_4] (hx_ HB ?_);clear HB;intro gb1 w10 BK1 GW1 HB;have GE1:=GW1;have hz11:=cz5_ BK1)|((with_reducible refine gq_ 104 8 ?_);refine gc_ 8 Tryz.func104 (laws_heldLog.calls k _ _ l0_0 a0_1 a0_2 a1 t602 _ (cb_ HR0_0 HB) HC0_0.out A3.out) ?_;rintro e w12 ⟨rfl,hb⟩;refine ⟨_,rfl,?_⟩;replace BK1:=kl_ BK1 hb;replace HB:=ss_ HB hb;clear hb;have hz13:=cz5_ BK1)|((with_reducible refine gq_ 105 14 ?_);refine gc_ 14 Tryz.func105 (laws_heldByteS.calls k _ _ l0_3 t602 t3 _ (cb_ HR0_3 HB) HC0_3.out A8.out) ?_;rintro e w' ⟨rfl,⟨nd,rfl⟩⟩;refine ⟨_,rfl,?_⟩))
   go_ret
   exact ⟨e2_,bw_ HB⟩
  ·obtain rfl:=Option.some.inj H
   go_enter Tryz.func67,Tryz.ntmps67
   go_wp2_with (first|((with_reducible refine gd_ 2 ?_);refine bx_ 2 41 #[.slice A0_0 l0_0.length c0_0,.int .i64 a0_1,.string a0_2,.slice A0_3 l0_3.length c0_3,.int .i64 a0_4] (hx_ HB ?_);clear HB;intro gb1 w14 BK1 GW1 HB;have GE1:=GW1;have hz15:=cz5_ BK1)|((with_reducible refine gq_ 104 8 ?_);refine gc_ 8 Tryz.func104 (laws_heldLog.calls k _ _ l0_0 a0_1 a0_2 a1 t602 _ (cb_ HR0_0 HB) HC0_0.out A3.out) ?_;rintro e w16 ⟨rfl,hb⟩;refine ⟨_,rfl,?_⟩;replace BK1:=kl_ BK1 hb;replace HB:=ss_ HB hb;clear hb;have hz17:=cz5_ BK1)|((with_reducible refine gq_ 105 14 ?_);refine gc_ 14 Tryz.func105 (laws_heldByteS.calls k _ _ l0_3 t602 t3 _ (cb_ HR0_3 HB) HC0_3.out A8.out) ?_;rintro e w' ⟨rfl,⟨nd,rfl⟩⟩;refine ⟨_,rfl,?_⟩))
   go_ret
   exact ⟨e2_,bw_ HB⟩
def laws_heldMirror.f (k:Nat) (a0_0:Int) (l0_1:List ByteArray) (a0_2:Int) (a0_3:ByteArray) (l0_4:List Int) (a0_5:Int) (a0_6:Int) (a0_7:ByteArray) (a1:Int):Option (Int):=(laws_heldStore.f k l0_1 a0_2 a0_3 l0_4 a0_5 a1).bind fun t602=>(if t602 < 0 then (some (-1)) else (some t602))
theorem laws_heldMirror.calls (k:Nat) (a0_0:Int) (A0_1:Option Addr) (c0_1:Nat) (l0_1:List ByteArray) (a0_2:Int) (a0_3:ByteArray) (A0_4:Option Addr) (c0_4:Nat) (l0_4:List Int) (a0_5:Int) (a0_6:Int) (a0_7:ByteArray) (a1:Int) (r:Int) (w:World) (hr0_1:Kd.C Kd.string w A0_1 l0_1.length l0_1) (hc0_1:l0_1.length≤c0_1) (hr0_4:Kd.C (Kd.int .u8) w A0_4 l0_4.length l0_4) (hc0_4:l0_4.length≤c0_4) (h:laws_heldMirror.f k a0_0 l0_1 a0_2 a0_3 l0_4 a0_5 a0_6 a0_7 a1=some r) :
  Calls Tryz.prog 31 #[.agg #[.int .i64 a0_0,.slice A0_1 l0_1.length c0_1,.int .i64 a0_2,.string a0_3,.slice A0_4 l0_4.length c0_4,.int .i64 a0_5,.int .i64 a0_6,.string a0_7],.int .i64 a1] w fun e w'=>e = .returned (.int .i64 r)∧Below w.heap.size w w':=by
 have hu43:=Tryz.underlying43
 have hu41:=Tryz.underlying41
 have HR0_1:=am_ hr0_1
 have HC0_1:=am_ hc0_1
 clear hr0_1 hc0_1
 have HR0_4:=am_ hr0_4
 have HC0_4:=am_ hc0_4
 clear hr0_4 hc0_4
 have HB:=h0_ w
 have H:((laws_heldStore.f k l0_1 a0_2 a0_3 l0_4 a0_5 a1).bind fun t602=>(if t602 < 0 then (some (-1)) else (some t602)))=some r:=h
 clear h
 replace H:=bi_ H;obtain ⟨t602,A3,H⟩:=H
 replace H:=itd_ H;obtain ⟨c4b0,H⟩|⟨c4b0,H⟩:=H
 ·obtain rfl:=Option.some.inj H
  go_enter Tryz.func31,Tryz.ntmps31
  go_wp2_with (first|((with_reducible refine gd_ 2 ?_);refine bx_ 2 43 #[.int .i64 a0_0,.slice A0_1 l0_1.length c0_1,.int .i64 a0_2,.string a0_3,.slice A0_4 l0_4.length c0_4,.int .i64 a0_5,.int .i64 a0_6,.string a0_7] (hx_ HB ?_);clear HB;intro gb1 w5 BK1 GW1 HB;have GE1:=GW1;have hcz6:=cz8_ BK1)|((with_reducible refine gq_ 67 8 ?_);refine gc_ 8 Tryz.func67 (laws_heldStore.calls k _ _ l0_1 a0_2 a0_3 _ _ l0_4 a0_5 a1 t602 _ (cb_ HR0_1 HB) HC0_1.out (cb_ HR0_4 HB) HC0_4.out A3.out) ?_;rintro e w7 ⟨rfl,hb⟩;refine ⟨_,rfl,?_⟩;replace BK1:=kl_ BK1 hb;replace HB:=ss_ HB hb;clear hb))
  go_ret
  exact ⟨e2_,bw_ HB⟩
 ·obtain rfl:=Option.some.inj H
  go_enter Tryz.func31,Tryz.ntmps31
  go_wp2_with (first|((with_reducible refine gd_ 2 ?_);refine bx_ 2 43 #[.int .i64 a0_0,.slice A0_1 l0_1.length c0_1,.int .i64 a0_2,.string a0_3,.slice A0_4 l0_4.length c0_4,.int .i64 a0_5,.int .i64 a0_6,.string a0_7] (hx_ HB ?_);clear HB;intro gb1 w8 BK1 GW1 HB;have GE1:=GW1;have hcz9:=cz8_ BK1)|((with_reducible refine gq_ 67 8 ?_);refine gc_ 8 Tryz.func67 (laws_heldStore.calls k _ _ l0_1 a0_2 a0_3 _ _ l0_4 a0_5 a1 t602 _ (cb_ HR0_1 HB) HC0_1.out (cb_ HR0_4 HB) HC0_4.out A3.out) ?_;rintro e w10 ⟨rfl,hb⟩;refine ⟨_,rfl,?_⟩;replace BK1:=kl_ BK1 hb;replace HB:=ss_ HB hb;clear hb))
  go_ret
  exact ⟨e2_,bw_ HB⟩
def spec_HeadOk.f (a0_0:Int) (a0_1:ByteArray):Option (Bool):=(spec_l1In.f a0_0 0 200).bind fun t602=>(if t602=true then (some ((a0_1.size:Int) == 32)) else (some false))
theorem spec_HeadOk.calls (a0_0:Int) (a0_1:ByteArray) (r:Bool) (w:World) (h:spec_HeadOk.f a0_0 a0_1=some r) :
  Calls Tryz.prog 74 #[.agg #[.int .i64 a0_0,.string a0_1]] w fun e w'=>e = .returned (.bool r)∧Below w.heap.size w w':=by
 have hu37:=Tryz.underlying37
 have HB:=h0_ w
 have H:((spec_l1In.f a0_0 0 200).bind fun t602=>(if t602=true then (some ((a0_1.size:Int) == 32)) else (some false)))=some r:=h
 clear h
 replace H:=bi_ H;obtain ⟨t602,A2,H⟩:=H
 replace H:=itb_ H;obtain ⟨rfl,H⟩|⟨rfl,H⟩:=H
 ·obtain rfl:=Option.some.inj H
  go_enter Tryz.func74,Tryz.ntmps74
  go_wp2_with (first|((with_reducible refine gd_ 1 ?_);(try (refine gate_guard (by rfl) ?_;dsimp only));refine bx_ 1 37 #[.int .i64 a0_0,.string a0_1] (hx_ HB ?_);clear HB;intro gb1 w4 BK1 GW1 HB;have GE1:=GW1;have hz5:=cz2_ BK1)|((with_reducible refine gq_ 72 5 ?_);refine gc_ 5 Tryz.func72 (spec_l1In.calls a0_0 0 200 true _ A2.out) ?_;rintro e w' ⟨rfl,⟨nd,rfl⟩⟩;refine ⟨_,rfl,?_⟩))
  go_ret
  exact ⟨e2_,bw_ HB⟩
 ·obtain rfl:=Option.some.inj H
  go_enter Tryz.func74,Tryz.ntmps74
  go_wp2_with (first|((with_reducible refine gd_ 1 ?_);(try (refine gate_guard (by rfl) ?_;dsimp only));refine bx_ 1 37 #[.int .i64 a0_0,.string a0_1] (hx_ HB ?_);clear HB;intro gb1 w6 BK1 GW1 HB;have GE1:=GW1;have hz7:=cz2_ BK1)|((with_reducible refine gq_ 72 5 ?_);refine gc_ 5 Tryz.func72 (spec_l1In.calls a0_0 0 200 false _ A2.out) ?_;rintro e w' ⟨rfl,⟨nd,rfl⟩⟩;refine ⟨_,rfl,?_⟩))
  go_ret
  exact ⟨e2_,bw_ HB⟩
def laws_szHeadS.l0:Nat->List (S24)->Int->Int->Option (Int)
 | 0,_,_,_=>none
 | k+1,x0,x1,x5=>if x5 < (x0.length:Int) then (if 0≤x5 then ((laws_szHead.f ((rd_T24 x0 x5).f0) ((rd_T24 x0 x5).f1) x1).bind fun t602=>(if t602 < 0 then (some (-1)) else (laws_szHeadS.l0 k x0 t602 (wrap64 (x5+1))))) else (none)) else (some x1)
def laws_szHeadS.f (k:Nat) (l0:List (S24)) (a1:Int):Option (Int):=if (wrap64 (a1 - (l0.length:Int))) < 0 then (some (-1)) else (laws_szHeadS.l0 k l0 (wrap64 (a1 - (l0.length:Int))) 0)
theorem laws_szHeadS.calls (k:Nat) (A0:Option Addr) (c0:Nat) (l0:List (S24)) (a1:Int) (r:Int) (w:World) (hr0:Kd.C k24 w A0 l0.length l0) (hc0:l0.length≤c0) (h:laws_szHeadS.f k l0 a1=some r) :
  Calls Tryz.prog 10 #[.slice A0 l0.length c0,.int .i64 a1] w fun e w'=>e = .returned (.int .i64 r)∧Below w.heap.size w w':=by
 have hu24:=Tryz.underlying24
 have HR0:=am_ hr0
 have HC0:=am_ hc0
 clear hr0 hc0
 have HB:=h0_ w
 have H:(if (wrap64 (a1 - (l0.length:Int))) < 0 then (some (-1)) else (laws_szHeadS.l0 k l0 (wrap64 (a1 - (l0.length:Int))) 0))=some r:=h
 clear h
 replace H:=itd_ H;obtain ⟨c3b0,H⟩|⟨c3b0,H⟩:=H
 ·obtain rfl:=Option.some.inj H
  go_enter Tryz.func10,Tryz.ntmps10
  go_wp2
  go_ret
  exact ⟨e2_,bw_ HB⟩
 ·have H':=am_ H
  clear H
  go_enter Tryz.func10,Tryz.ntmps10
  go_wp2
  go_loopg [1,5] k (fun kq v1 v5 w'=>∃ (x1_1:Int) (x5_1:Int),v1 = .int .i64 x1_1∧v5 = .int .i64 x5_1∧Aside0 (laws_szHeadS.l0 kq l0 x1_1 x5_1=some r)∧Aside0 (kq≤k)∧Aside0 (Below w.heap.size w w'))
  case atStart => exact ⟨(wrap64 (a1 - (l0.length:Int))),(0),e1_,e1_,H',⟨Nat.le_refl _⟩,⟨bw_ HB⟩⟩
  case round =>
   clear H'
   try clear c3b0
   obtain ⟨x1_1,x5_1,rfl,rfl,HA,HK1,HB⟩:=hrel
   cases gk with
   | zero=>exact absurd HA.out (by simp [laws_szHeadS.l0])
   | succ k1 =>
    have H:=HA.out
    clear HA
    simp only [laws_szHeadS.l0] at H
    replace H:=itd_ H;obtain ⟨c4b0,H⟩|⟨c4b0,H⟩:=H
    ·replace H:=ipd_ H;obtain ⟨c5b0,H⟩:=H
     replace H:=bi_ H;obtain ⟨t602,A6,H⟩:=H
     replace H:=itd_ H;obtain ⟨c7b0,H⟩|⟨c7b0,H⟩:=H
     ·obtain rfl:=Option.some.inj H
      have p601:0≤(x5_1:Int):=od_
      have q1:x5_1 < (l0.length:Int):=od_
      obtain ⟨ad1,e601,hx1_0,hx1_1⟩:=at_T24 HR0.out x5_1 p601 q1
      cases e601
      replace hx1_0:=cw_ HB hx1_0
      replace hx1_1:=cw_ HB hx1_1
      replace p601:=eq_true p601
      replace q1:=eq_true q1
      go_wp2_with (first|((with_reducible refine gq_ 38 23 ?_);refine gc_ 23 Tryz.func38 (laws_szHead.calls ((rd_T24 l0 x5_1).f0) ((rd_T24 l0 x5_1).f1) x1_1 t602 _ A6.out) ?_;rintro e w8 ⟨rfl,hb⟩;refine ⟨_,rfl,?_⟩;replace HB:=ss_ HB hb;clear hb))
      go_ret
      exact ⟨e2_,bw_ HB⟩
     ·have H':=am_ H
      clear H
      have p601:0≤(x5_1:Int):=od_
      have q1:x5_1 < (l0.length:Int):=od_
      obtain ⟨ad1,e601,hx1_0,hx1_1⟩:=at_T24 HR0.out x5_1 p601 q1
      cases e601
      replace hx1_0:=cw_ HB hx1_0
      replace hx1_1:=cw_ HB hx1_1
      replace p601:=eq_true p601
      replace q1:=eq_true q1
      go_wp2_with (first|((with_reducible refine gq_ 38 23 ?_);refine gc_ 23 Tryz.func38 (laws_szHead.calls ((rd_T24 l0 x5_1).f0) ((rd_T24 l0 x5_1).f1) x1_1 t602 _ A6.out) ?_;rintro e w9 ⟨rfl,hb⟩;refine ⟨_,rfl,?_⟩;replace HB:=ss_ HB hb;clear hb))
      go_roundg k1
      case measure => have:=HK1.out;omega
      case rel => exact ⟨(t602),(wrap64 (x5_1+1)),e1_,e1_,H',⟨by have:=HK1.out;omega⟩,⟨bw_ HB⟩⟩
    ·obtain rfl:=Option.some.inj H
     go_wp2
     go_ret
     exact ⟨e2_,bw_ HB⟩
def laws_toHeadS.l0:Nat->List (S24)->List (S37)->Int->Option ((List (S37)))
 | 0,_,_,_=>none
 | k+1,x0,x3,x4=>if x4 < (x0.length:Int) then (if 0≤x4 then ((laws_toHead.f ((rd_T24 x0 x4).f0) ((rd_T24 x0 x4).f1)).bind fun bt5=>(if x4 < (x3.length:Int) then (laws_toHeadS.l0 k x0 (x3.set (x4:Int).toNat (⟨bt5.1,bt5.2⟩:S37)) (wrap64 (x4+1))) else (none))) else (none)) else (some x3)
def laws_toHeadS.f (k:Nat) (l0:List (S24)):Option ((List (S37))):=if 0≤(l0.length:Int) then (if ((l0.length:Int):Int).toNat≤11728124029610 then (laws_toHeadS.l0 k l0 (List.replicate ((l0.length:Int):Int).toNat z37) 0) else (none)) else (none)
theorem laws_toHeadS.calls (k:Nat) (A0:Option Addr) (c0:Nat) (l0:List (S24)) (r:List (S37)) (w:World) (hr0:Kd.C k24 w A0 l0.length l0) (hc0:l0.length≤c0) (h:laws_toHeadS.f k l0=some r) :
  Calls Tryz.prog 13 #[.slice A0 l0.length c0] w fun e w'=>∃ v0_:Value,e = .returned (v0_)∧Kd.R k37 37 w' w.heap.size (fun _=>True) v0_ r∧Below w.heap.size w w':=by
 have hu24:=Tryz.underlying24
 have hu37:=Tryz.underlying37
 have HR0:=am_ hr0
 have HC0:=am_ hc0
 clear hr0 hc0
 have HB:=h0_ w
 have H:(if 0≤(l0.length:Int) then (if ((l0.length:Int):Int).toNat≤11728124029610 then (laws_toHeadS.l0 k l0 (List.replicate ((l0.length:Int):Int).toNat z37) 0) else (none)) else (none))=some r:=h
 clear h
 replace H:=ip_ H;obtain ⟨c2,H⟩:=H
 have c2b0:=eq_true c2
 have c2b1:=decide_eq_true c2
 clear c2
 replace H:=ip_ H;obtain ⟨c3,H⟩:=H
 have c3b0:=eq_true c3
 have c3b1:=decide_eq_true c3
 clear c3
 obtain ⟨y601,hy1⟩:∃ y_:List (S37),y_=(List.replicate ((l0.length:Int):Int).toNat z37):=⟨_,rfl⟩
 replace H:(laws_toHeadS.l0 k l0 y601 0)=some r:=yh_ hy1 H
 have Ny1:=am_ hy1
 clear hy1
 have H':=am_ H
 clear H
 go_enter Tryz.func13,Tryz.ntmps13
 go_wp2_with (first|((with_reducible refine gd_ 7 ?_);refine Kd.R_make k37 _ 37 rfl (N:=7) rfl 45 _ _ rfl (l0.length:Int) rfl rfl Tryz.underlying45 (.agg #[(.int .i64 0),(.string ⟨#[]⟩)]) 24 info37 rfl (by decide) (by omega) z37 (ok:=fun _=>True) (okp:=fun _=>True) (k37_mkM _ _ _ z37 ) (fun _ hk=>hk) trivial (od_) (Nat.le_trans (Nat.mul_le_mul_right _ (od_:(l0.length:Int).toNat≤11728124029610)) (by omega)) (Below.refl _ _) (Nat.le_refl _) ?_;intro v2 w4 ho5 hb hg_ hnew_;clear hg_ hnew_;(first|rw [← Ny1.out] at ho5|(simp only [Int.reduceToNat] at ho5;rw [← Ny1.out] at ho5));have HO3:=rlo_ ho5 HB;replace HB:=ss_ HB hb;clear hb ho5))
 go_loopg [4] k (fun kq v4 w'=>∃ (x3_1:List (S37)) (x4_1:Int),v4 = .int .i64 x4_1∧Aside0 (laws_toHeadS.l0 kq l0 x3_1 x4_1=some r)∧Aside0 (kq≤k)∧Aside0 (Kd.R k37 37 w' w.heap.size (fun _=>True) v2 x3_1)∧Aside0 (Below w.heap.size w w'))
 case atStart => exact ⟨(y601),(0),e1_,H',⟨Nat.le_refl _⟩,⟨kr_ HO3.out⟩,⟨bw_ HB⟩⟩
 case round =>
  clear H'
  try clear c2
  try clear c2b0
  try clear c2b1
  try clear c3
  try clear c3b0
  try clear c3b1
  obtain ⟨x3_1,x4_1,rfl,HA,HK1,HO_3,HB⟩:=hrel
  cases gk with
  | zero=>exact absurd HA.out (by simp [laws_toHeadS.l0])
  | succ k1 =>
   have H:=HA.out
   clear HA
   simp only [laws_toHeadS.l0] at H
   replace H:=itd_ H;obtain ⟨c6b0,H⟩|⟨c6b0,H⟩:=H
   ·replace H:=ipd_ H;obtain ⟨c7b0,H⟩:=H
    replace H:=bi_ H;obtain ⟨⟨t5,t6⟩,A8,H⟩:=H
    dsimp only at H
    replace H:=ipd_ H;obtain ⟨c9b0,H⟩:=H
    obtain ⟨y607,hy7⟩:∃ y_:List (S37),y_=(x3_1.set (x4_1:Int).toNat (⟨t5,t6⟩:S37)):=⟨_,rfl⟩
    replace H:(laws_toHeadS.l0 k1 l0 y607 (wrap64 (x4_1+1)))=some r:=yh_ hy7 H
    have Ny7:=am_ hy7
    clear hy7
    have H':=am_ H
    clear H
    have p604:0≤(x4_1:Int):=od_
    have q4:x4_1 < (l0.length:Int):=od_
    obtain ⟨ad4,e4,hx4_0,hx4_1⟩:=at_T24 HR0.out x4_1 p604 q4
    cases e4
    replace hx4_0:=cw_ HB hx4_0
    replace hx4_1:=cw_ HB hx4_1
    replace p604:=eq_true p604
    replace q4:=eq_true q4
    go_wp2_with (first|((with_reducible refine gq_ 42 20 ?_);refine gc_ 20 Tryz.func42 (laws_toHead.calls ((rd_T24 l0 x4_1).f0) ((rd_T24 l0 x4_1).f1) t5 t6 _ A8.out) ?_;rintro e w11 ⟨rfl,hb⟩;refine ⟨_,rfl,?_⟩;replace HO_3:=rb_ HO_3 hb;replace HB:=ss_ HB hb;clear hb;have p10:0≤(x4_1:Int):=od_;have q10:(x4_1:Int) < ((x3_1.length:Int):Int):=od_;obtain ⟨go10,co10,eo10,gb10,gl10,cl10,HG10⟩:=Kd.R_form HO_3.out (by omega);(first|cases eo10|(injection eo10 with ea_ en_ ec_;(first|subst ea_|(injection ea_ with ea_;subst ea_));subst ec_;clear en_));have GB10:=am_ gb10;have GG10:=am_ HG10;clear gb10 gl10 HG10;obtain ⟨ce10,hcl10,hM10,hcc10,hfr10⟩:=Kd.R_elem HO_3.out z37 (x4_1:Int) p10 q10;obtain rfl:=k37_openM hM10;have hx10_0:w11.cell? ⟨go10,(x4_1:Int).toNat * 2,none⟩=some (.int .i64 ((rd_T37 x3_1 x4_1).f0)):=hcc10 0 _ rfl;have hx10_1:w11.cell? ⟨go10,(x4_1:Int).toNat * 2+1,none⟩=some (.string ((rd_T37 x3_1 x4_1).f1)):=hcc10 1 _ rfl;have hf10_0:w11.frozen? ⟨go10,(x4_1:Int).toNat * 2,none⟩=false:=hfr10 0;have hf10_1:w11.frozen? ⟨go10,(x4_1:Int).toNat * 2+1,none⟩=false:=hfr10 1;clear hcl10 hcc10 hfr10 hM10;replace p10:=eq_true p10;replace q10:=eq_true q10;have HX12:=am_ (show Kd.R k37 37 w11 w.heap.size (fun _=>True) (.slice (some ⟨go10,0,none⟩) x3_1.length co10) x3_1 from (kr_ HO_3.out));obtain ⟨ce12,hcl12,hM12,hcc12,hfr12⟩:=Kd.R_elem HX12.out z37 (x4_1:Int) (od_) (by have h_:(x4_1:Int) < ((x3_1.length:Int):Int):=od_;first|exact h_|(have e_:=(Kd.R_reads' HO_3.out).1;omega)|simpa using h_);obtain rfl:=k37_openM hM12;have HP12:=Kd.R_seg HX12.out (x4_1:Int) (od_) (by have h_:(x4_1:Int) < ((x3_1.length:Int):Int):=od_;first|exact h_|(have e_:=(Kd.R_reads' HO_3.out).1;omega)|simpa using h_) (seg:=[.int .i64 t5,.string t6]) (j:=0) hcl12 hcc12 (show 2≤2 from by decide) (x':=(⟨t5,t6⟩:S37)) (k37_mkM _ _ _ (⟨t5,t6⟩:S37) ) (fun _ hk=>hk);have hx12_0:=hcc12 0 _ rfl;(try simp only [show (k37).sz=2 from rfl,Nat.mul_one,Nat.add_zero] at hx12_0);have hf12_0:=hfr12 0;(try simp only [show (k37).sz=2 from rfl,Nat.mul_one,Nat.add_zero] at hf12_0);have hx12_1:=hcc12 1 _ rfl;(try simp only [show (k37).sz=2 from rfl,Nat.mul_one,Nat.add_zero] at hx12_1);have hf12_1:=hfr12 1;(try simp only [show (k37).sz=2 from rfl,Nat.mul_one,Nat.add_zero] at hf12_1);clear hcl12 hcc12 hfr12 hM12)|((with_reducible refine gate_store (t:=37) (p:=21) rfl ?_);refine store_event (t:=37) (p:=21) (v:=?vo_w13) (w1:=((w11.setCell ⟨go10,(x4_1:Int).toNat * 2,none⟩ (.int .i64 t5)).setCell ⟨go10,(x4_1:Int).toNat * 2+1,none⟩ (.string t6))) ?hg ?ho ?hn ?hr ?_;(case ho=>rfl);(case hg=>rfl);(case hn=>rfl);(case hr=>first|(go_simp;done)|(go_simp;rfl));intro w13 hw;have hg:w11.grownBy w13 (some go10):=(by rw [hw];exact HP12.2);have hp_:Kd.R k37 37 w13 w.heap.size (fun _=>True) (.slice (some ⟨go10,0,none⟩) x3_1.length co10) y607:=(by rw [hw,Ny7.out];exact HP12.1);clear HP12;replace HO_3:=am_ hp_;replace HB:=am_ ((by rw [hw];exact below_set (below_set (HB.out) GB10.out) GB10.out:Below w.heap.size w w13));clear hg hw hp_))
    go_roundg k1
    case measure => have:=HK1.out;omega
    case rel => exact ⟨(y607),(wrap64 (x4_1+1)),e1_,H',⟨by have:=HK1.out;omega⟩,⟨kr_ HO_3.out⟩,⟨bw_ HB⟩⟩
   ·obtain rfl:=Option.some.inj H
    go_wp2
    go_ret
    exact ⟨_,e2_,kr_ HO_3.out,bw_ HB⟩
def laws_eqHeadS.l0:Nat->List (S37)->List (S37)->Int->Option (Bool)
 | 0,_,_,_=>none
 | k+1,x0,x1,x5=>if x5 < (x0.length:Int) then (if 0≤x5 then (if x5 < (x1.length:Int) then ((laws_eqHead.f ((rd_T37 x0 x5).f0) ((rd_T37 x0 x5).f1) ((rd_T37 x1 x5).f0) ((rd_T37 x1 x5).f1)).bind fun t3=>(if t3=true then (laws_eqHeadS.l0 k x0 x1 (wrap64 (x5+1))) else (none))) else (none)) else (none)) else (some true)
def laws_eqHeadS.f (k:Nat) (l0:List (S37)) (l1:List (S37)):Option (Bool):=if (l0.length:Int)=(l1.length:Int) then (laws_eqHeadS.l0 k l0 l1 0) else (none)
def laws_eqHeadS.T6:Bool × List (List Nat × List Nat):=(true,[([],[]),([],[]),([0,1],[0,1]),([2],[2]),([],[]),([],[]),([4,5],[4,5]),([6],[6]),([3,7],[3,7]),([8],[8])])
def laws_eqHeadS.B6:List Nat:=[0,0,3,7,0,0,48,112,255,511]
theorem laws_eqHeadS.tab6:rtab .any (opsOf Tryz.f17 6)=laws_eqHeadS.T6:=by kernel_rfl
theorem laws_eqHeadS.bits6:waitsOk laws_eqHeadS.T6.2 laws_eqHeadS.B6=true:=by kernel_rfl
theorem laws_eqHeadS.calls (k:Nat) (A0:Option Addr) (c0:Nat) (l0:List (S37)) (A1:Option Addr) (c1:Nat) (l1:List (S37)) (r:Bool) (w:World) (hr0:Kd.C k37 w A0 l0.length l0) (hc0:l0.length≤c0) (hr1:Kd.C k37 w A1 l1.length l1) (hc1:l1.length≤c1) (h:laws_eqHeadS.f k l0 l1=some r) :
  Calls Tryz.prog 17 #[.slice A0 l0.length c0,.slice A1 l1.length c1] w fun e w'=>e = .returned (.bool r)∧Below w.heap.size w w':=by
 have hu37:=Tryz.underlying37
 have HR0:=am_ hr0
 have HC0:=am_ hc0
 clear hr0 hc0
 have HR1:=am_ hr1
 have HC1:=am_ hc1
 clear hr1 hc1
 have HB:=h0_ w
 have H:(if (l0.length:Int)=(l1.length:Int) then (laws_eqHeadS.l0 k l0 l1 0) else (none))=some r:=h
 clear h
 replace H:=ip_ H;obtain ⟨c3,H⟩:=H
 have c3b0:((l0.length:Int) == (l1.length:Int))=true:=beq_iff_eq.mpr c3
 have c3b1:((l0.length:Int) != (l1.length:Int))=false:=bne_eq_false_iff_eq.mpr c3
 have c3b2:(l0.length == l1.length)=true:=by first|simpa using c3|(simp at c3 ⊢;omega)
 clear c3
 have H':=am_ H
 clear H
 go_enter Tryz.func17,Tryz.ntmps17
 go_wp2
 go_loopg [5] k (fun kq v5 w'=>∃ (x5_1:Int),v5 = .int .i64 x5_1∧Aside0 (laws_eqHeadS.l0 kq l0 l1 x5_1=some r)∧Aside0 (kq≤k)∧Aside0 (Below w.heap.size w w'))
 case atStart => exact ⟨(0),e1_,H',⟨Nat.le_refl _⟩,⟨bw_ HB⟩⟩
 case round =>
  clear H'
  try clear c3
  try clear c3b0
  try clear c3b1
  try clear c3b2
  obtain ⟨x5_1,rfl,HA,HK1,HB⟩:=hrel
  cases gk with
  | zero=>exact absurd HA.out (by simp [laws_eqHeadS.l0])
  | succ k1 =>
   have H:=HA.out
   clear HA
   simp only [laws_eqHeadS.l0] at H
   replace H:=itd_ H;obtain ⟨c4b0,H⟩|⟨c4b0,H⟩:=H
   ·replace H:=ipd_ H;obtain ⟨c5b0,H⟩:=H
    replace H:=ipd_ H;obtain ⟨c6b0,H⟩:=H
    replace H:=bi_ H;obtain ⟨t3,A7,H⟩:=H
    replace H:=ipb_ H;obtain ⟨rfl,H⟩:=H
    have H':=am_ H
    clear H
    try go_wp2
    replace HB:=hd_ HB
    have p601:0≤(x5_1:Int):=od_
    have q1:x5_1 < (l0.length:Int):=od_
    obtain ⟨ad1,e601,hx1_0,hx1_1⟩:=at_T37 HR0.out x5_1 p601 q1
    have hw1_1:=hx1_1
    have hw1_0:=hx1_0
    cases e601
    replace hx1_0:=cw_ HB hx1_0
    replace hx1_1:=cw_ HB hx1_1
    replace p601:=eq_true p601
    replace q1:=eq_true q1
    have p602:0≤(x5_1:Int):=od_
    have q602:x5_1 < (l1.length:Int):=od_
    obtain ⟨ad2,e602,hx2_0,hx2_1⟩:=at_T37 HR1.out x5_1 p602 q602
    have hw2_1:=hx2_1
    have hw2_0:=hx2_0
    cases e602
    replace hx2_0:=cw_ HB hx2_0
    replace hx2_1:=cw_ HB hx2_1
    replace p602:=eq_true p602
    replace q602:=eq_true q602
    refine sw_ 10 (fun w'=>w'.cell? (ad1.add ((x5_1).toNat * 2))=some (.int .i64 ((rd_T37 l0 x5_1).f0))∧w'.cell? ⟨(ad1.add ((x5_1).toNat * 2)).block,(ad1.add ((x5_1).toNat * 2)).off+1,none⟩=some (.string ((rd_T37 l0 x5_1).f1))∧w'.cell? (ad2.add ((x5_1).toNat * 2))=some (.int .i64 ((rd_T37 l1 x5_1).f0))∧w'.cell? ⟨(ad2.add ((x5_1).toNat * 2)).block,(ad2.add ((x5_1).toNat * 2)).off+1,none⟩=some (.string ((rd_T37 l1 x5_1).f1))) [] laws_eqHeadS.tab6 laws_eqHeadS.bits6 ⟨(cw_ HB hw1_0),(cw_ HB hw1_1),(cw_ HB hw2_0),(cw_ HB hw2_1)⟩ (fun hHeld HT_ HW_=>?_)
    generalize wr.drew=w9 at HB hx1_0 hx1_1 hx2_0 hx2_1 hHeld ⊢
    refine pt_ 0 17 1 ?_
    refine pt_ 1 18 3 ?_
    refine pt_ 2 19 7 ?_
    refine pt_ 4 21 23 ?_
    refine pt_ 5 22 55 ?_
    refine pt_ 6 23 119 ?_
    refine tt_ 3 20 127 ?_
    refine tt_ 7 24 255 ?_
    refine oz_ 8 25 10 511 (fun K hK=>?_)
    refine gf_ Tryz.func46 (laws_eqHead.calls ((rd_T37 l0 x5_1).f0) ((rd_T37 l0 x5_1).f1) ((rd_T37 l1 x5_1).f0) ((rd_T37 l1 x5_1).f1) true _ A7.out) ?_
    rintro e w10 ⟨rfl,hb⟩
    refine ⟨_,rfl,?_⟩
    replace HB:=ss_ HB hb
    clear hb
    refine hK.out _ _ ⟨(cw_ HB hw1_0),(cw_ HB hw1_1),(cw_ HB hw2_0),(cw_ HB hw2_1)⟩ (fun hHeld=>?_)
    clear hK K
    refine no_ 25 ?_
    refine pt_ 9 26 1023 ?_
    refine dn_ ?_
    try go_wp2
    go_roundg k1
    case measure => have:=HK1.out;omega
    case rel => exact ⟨(wrap64 (x5_1+1)),e1_,H',⟨by have:=HK1.out;omega⟩,⟨bw_ HB⟩⟩
   ·obtain rfl:=Option.some.inj H
    go_wp2
    go_ret
    exact ⟨e2_,bw_ HB⟩
def laws_markHeadS.l0:Nat->List (S37)->Int->Int->Option (Int × (List (S37)))
 | 0,_,_,_=>none
 | k+1,x0,x1,x5=>if x5 < (x0.length:Int) then (if 0≤x5 then ((some (x0.set (x5:Int).toNat (⟨x1,(rd_T37 x0 x5).f1⟩:S37):List (S37))).bind fun y601=>((laws_markText.f k (wrap64 (x1+1))).bind fun t602=>(laws_markHeadS.l0 k (y601.set (x5:Int).toNat (⟨(rd_T37 y601 x5).f0,t602⟩:S37)) (wrap64 ((wrap64 (x1+1)) + 1)) (wrap64 (x5+1))))) else (none)) else (some (x1,x0))
def laws_markHeadS.f (k:Nat) (l0:List (S37)) (a1:Int):Option (Int × (List (S37))):=laws_markHeadS.l0 k l0 a1 0
theorem laws_markHeadS.calls (k:Nat) (P0_:Nat->Prop) (u9000_:Value) (l0:List (S37)) (a1:Int) (r1:Int) (r2:List (S37)) (w0 w:World) (hB:Below w0.heap.size w0 w) (ho0:Kd.R k37 37 w w0.heap.size P0_ u9000_ l0) (h:laws_markHeadS.f k l0 a1=some (r1,r2)) :
  Calls Tryz.prog 19 #[u9000_,.int .i64 a1] w fun e w'=>e = .returned (.int .i64 r1)∧Kd.R k37 37 w' w0.heap.size (fun k_=>(P0_ k_∨w.heap.size≤k_)) u9000_ r2∧Below w0.heap.size w0 w'∧Kept w w' (fun k_=>P0_ k_):=by
 have HO0:=am_ (show Kd.R k37 37 w w0.heap.size (fun k_=>(P0_ k_∨w.heap.size≤k_)) u9000_ l0 from Kd.R_mono ho0 (fun k_ hk=>(.inl hk)))
 have HK:=am_ (Kept.refl w (fun k_=>P0_ k_))
 have HW0:=am_ hB.size
 have HB:=am_ hB
 clear hB
 have H:(laws_markHeadS.l0 k l0 a1 0)=some (r1,r2):=h
 clear h
 have H':=am_ H
 clear H
 go_enter Tryz.func19,Tryz.ntmps19
 go_wp2
 go_loopg [1,5] k (fun kq v1 v5 w'=>∃ (x0_1:List (S37)) (x1_1:Int) (x5_1:Int),v1 = .int .i64 x1_1∧v5 = .int .i64 x5_1∧Aside0 (laws_markHeadS.l0 kq x0_1 x1_1 x5_1=some (r1,r2))∧Aside0 (kq≤k)∧Aside0 (Kd.R k37 37 w' w0.heap.size (fun k_=>(P0_ k_∨w.heap.size≤k_)) u9000_ x0_1)∧Aside0 (Kept w w' (fun k_=>P0_ k_))∧Aside0 (Below w0.heap.size w0 w'))
 case atStart => exact ⟨(l0),(a1),(0),e1_,e1_,H',⟨Nat.le_refl _⟩,⟨kr_ HO0.out⟩,⟨kt_ HK⟩,⟨bw_ HB⟩⟩
 case round =>
  clear H'
  obtain ⟨x0_1,x1_1,x5_1,rfl,rfl,HA,HK1,HO_0,HK,HB⟩:=hrel
  cases gk with
  | zero=>exact absurd HA.out (by simp [laws_markHeadS.l0])
  | succ k1 =>
   have H:=HA.out
   clear HA
   simp only [laws_markHeadS.l0] at H
   replace H:=itd_ H;obtain ⟨c3b0,H⟩|⟨c3b0,H⟩:=H
   ·replace H:=ipd_ H;obtain ⟨c4b0,H⟩:=H
    obtain ⟨y601,Ny1,H⟩:=sb_ (x0_1.set (x5_1:Int).toNat (⟨x1_1,(rd_T37 x0_1 x5_1).f1⟩:S37)) H
    replace H:=bi_ H;obtain ⟨t602,A6,H⟩:=H
    obtain ⟨y603,hy3⟩:∃ y_:List (S37),y_=(y601.set (x5_1:Int).toNat (⟨(rd_T37 y601 x5_1).f0,t602⟩:S37)):=⟨_,rfl⟩
    replace H:(laws_markHeadS.l0 k1 y603 (wrap64 ((wrap64 (x1_1+1)) + 1)) (wrap64 (x5_1+1)))=some (r1,r2):=yh_ hy3 H
    have Ny3:=am_ hy3
    clear hy3
    have H':=am_ H
    clear H
    obtain ⟨Ao8,co8,eo8⟩:=Kd.R_slice HO_0.out
    subst eo8
    have p5:0≤(x5_1:Int):=od_
    have q5:(x5_1:Int) < ((x0_1.length:Int):Int):=od_
    obtain ⟨go5,co5,eo5,gb5,gl5,cl5,HG5⟩:=Kd.R_form HO_0.out (by omega)
    (first | cases eo5|(injection eo5 with ea_ en_ ec_;(first|subst ea_|(injection ea_ with ea_;subst ea_));subst ec_;clear en_))
    have GB5:=am_ gb5
    have GG5:=am_ HG5
    clear gb5 gl5 HG5
    have HMgo5:=am_ (show (P0_ go5∨w.heap.size≤go5) from (HO_0.out.1 _ rfl))
    obtain ⟨ce5,hcl5,hM5,hcc5,hfr5⟩:=Kd.R_elem HO_0.out z37 (x5_1:Int) p5 q5
    obtain rfl:=k37_openM hM5
    have hx5_0:wr.cell? ⟨go5,(x5_1:Int).toNat * 2,none⟩=some (.int .i64 ((rd_T37 x0_1 x5_1).f0)):=hcc5 0 _ rfl
    have hx5_1:wr.cell? ⟨go5,(x5_1:Int).toNat * 2+1,none⟩=some (.string ((rd_T37 x0_1 x5_1).f1)):=hcc5 1 _ rfl
    have hf5_0:wr.frozen? ⟨go5,(x5_1:Int).toNat * 2,none⟩=false:=hfr5 0
    have hf5_1:wr.frozen? ⟨go5,(x5_1:Int).toNat * 2+1,none⟩=false:=hfr5 1
    clear hcl5 hcc5 hfr5 hM5
    replace p5:=eq_true p5
    replace q5:=eq_true q5
    have HX9:=am_ (show Kd.R k37 37 wr w0.heap.size (fun k_=>(P0_ k_∨w.heap.size≤k_)) (.slice (some ⟨go5,0,none⟩) x0_1.length co8) x0_1 from (kr_ HO_0.out))
    obtain ⟨ce9,hcl9,hM9,hcc9,hfr9⟩:=Kd.R_elem HX9.out z37 (x5_1:Int) (od_) (by have h_:(x5_1:Int) < ((x0_1.length:Int):Int):=od_;first|exact h_|(have e_:=(Kd.R_reads' HO_0.out).1;omega)|simpa using h_)
    obtain rfl:=k37_openM hM9
    have HP9:=Kd.R_seg HX9.out (x5_1:Int) (od_) (by have h_:(x5_1:Int) < ((x0_1.length:Int):Int):=od_;first|exact h_|(have e_:=(Kd.R_reads' HO_0.out).1;omega)|simpa using h_) (seg:=[.int .i64 x1_1]) (j:=0) hcl9 hcc9 (show 1≤2 from by decide) (x':=(⟨x1_1,(rd_T37 x0_1 x5_1).f1⟩:S37)) (k37_mkM _ _ _ (⟨x1_1,(rd_T37 x0_1 x5_1).f1⟩:S37) ) (fun _ hk=>hk)
    have hx9_0:=hcc9 0 _ rfl
    (try simp only [show (k37).sz=2 from rfl,Nat.mul_one,Nat.add_zero] at hx9_0)
    have hf9_0:=hfr9 0
    (try simp only [show (k37).sz=2 from rfl,Nat.mul_one,Nat.add_zero] at hf9_0)
    clear hcl9 hcc9 hfr9 hM9
    go_wp2_with (first|((with_reducible refine gate_store (t:=3) (p:=16) rfl ?_);refine store_event (t:=3) (p:=16) (v:=?vo_w10) (w1:=(wr.setCell ⟨go5,(x5_1:Int).toNat * 2,none⟩ (.int .i64 x1_1))) ?hg ?ho ?hn ?hr ?_;(case ho=>rfl);(case hg=>rfl);(case hn=>rfl);(case hr=>first|(go_simp;done)|(go_simp;rfl));intro w10 hw;have hg:wr.grownBy w10 (some go5):=(by rw [hw];exact HP9.2);have hp_:Kd.R k37 37 w10 w0.heap.size (fun k_=>(P0_ k_∨w.heap.size≤k_)) (.slice (some ⟨go5,0,none⟩) x0_1.length co8) y601:=(by rw [hw,Ny1.out];exact HP9.1);clear HP9;replace HB:=am_ ((by rw [hw];exact below_set (HB.out) GB5.out:Below w0.heap.size w0 w10));replace HK:=am_ (Kept.of_grown (S:=(fun k_=>P0_ k_)) hg (kt_ HK) (fun k_ e_=>(HO_0.out.1 k_ e_)));replace HO_0:=am_ hp_;clear hg hw hp_)|((with_reducible refine gq_ 48 22 ?_);refine gc_ 22 Tryz.func48 (laws_markText.calls k1 (wrap64 (x1_1+1)) t602 _ A6.out) ?_;rintro e w11 ⟨rfl,hb⟩;refine ⟨_,rfl,?_⟩;replace HO_0:=rb_ HO_0 hb;replace HK:=am_ (Kept.below (S:=(fun k_=>P0_ k_)) (kt_ HK) hb);replace HB:=ss_ HB hb;clear hb;have p7:0≤(x5_1:Int):=od_;have q7:(x5_1:Int) < ((x0_1.length:Int):Int):=od_;obtain ⟨ce7,hcl7,hM7,hcc7,hfr7⟩:=Kd.R_elem HO_0.out z37 (x5_1:Int) p7 q7;obtain rfl:=k37_openM hM7;have hx7_0:w11.cell? ⟨go5,(x5_1:Int).toNat * 2,none⟩=some (.int .i64 ((rd_T37 y601 x5_1).f0)):=hcc7 0 _ rfl;have hx7_1:w11.cell? ⟨go5,(x5_1:Int).toNat * 2+1,none⟩=some (.string ((rd_T37 y601 x5_1).f1)):=hcc7 1 _ rfl;have hf7_0:w11.frozen? ⟨go5,(x5_1:Int).toNat * 2,none⟩=false:=hfr7 0;have hf7_1:w11.frozen? ⟨go5,(x5_1:Int).toNat * 2+1,none⟩=false:=hfr7 1;clear hcl7 hcc7 hfr7 hM7;replace p7:=eq_true p7;replace q7:=eq_true q7;have HX12:=am_ (show Kd.R k37 37 w11 w0.heap.size (fun k_=>(P0_ k_∨w.heap.size≤k_)) (.slice (some ⟨go5,0,none⟩) x0_1.length co8) y601 from (kr_ HO_0.out));obtain ⟨ce12,hcl12,hM12,hcc12,hfr12⟩:=Kd.R_elem HX12.out z37 (x5_1:Int) (od_) (by have h_:(x5_1:Int) < ((x0_1.length:Int):Int):=od_;first|exact h_|(have e_:=(Kd.R_reads' HO_0.out).1;omega)|simpa using h_);obtain rfl:=k37_openM hM12;have HP12:=Kd.R_seg HX12.out (x5_1:Int) (od_) (by have h_:(x5_1:Int) < ((x0_1.length:Int):Int):=od_;first|exact h_|(have e_:=(Kd.R_reads' HO_0.out).1;omega)|simpa using h_) (seg:=[.string t602]) (j:=1) hcl12 hcc12 (show 2≤2 from by decide) (x':=(⟨(rd_T37 y601 x5_1).f0,t602⟩:S37)) (k37_mkM _ _ _ (⟨(rd_T37 y601 x5_1).f0,t602⟩:S37) ) (fun _ hk=>hk);have hx12_1:=hcc12 1 _ rfl;(try simp only [show (k37).sz=2 from rfl,Nat.mul_one,Nat.add_zero] at hx12_1);have hf12_1:=hfr12 1;(try simp only [show (k37).sz=2 from rfl,Nat.mul_one,Nat.add_zero] at hf12_1);clear hcl12 hcc12 hfr12 hM12)|((with_reducible refine gate_store (t:=9) (p:=24) rfl ?_);refine store_event (t:=9) (p:=24) (v:=?vo_w13) (w1:=(w11.setCell ⟨go5,(x5_1:Int).toNat * 2+1,none⟩ (.string t602))) ?hg ?ho ?hn ?hr ?_;(case ho=>rfl);(case hg=>rfl);(case hn=>rfl);(case hr=>first|(go_simp;done)|(go_simp;rfl));intro w13 hw;have hg:w11.grownBy w13 (some go5):=(by rw [hw];exact HP12.2);have hp_:Kd.R k37 37 w13 w0.heap.size (fun k_=>(P0_ k_∨w.heap.size≤k_)) (.slice (some ⟨go5,0,none⟩) x0_1.length co8) y603:=(by rw [hw,Ny3.out];exact HP12.1);clear HP12;replace HB:=am_ ((by rw [hw];exact below_set (HB.out) GB5.out:Below w0.heap.size w0 w13));replace HK:=am_ (Kept.of_grown (S:=(fun k_=>P0_ k_)) hg (kt_ HK) (fun k_ e_=>(HO_0.out.1 k_ e_)));replace HO_0:=am_ hp_;clear hg hw hp_))
    go_roundg k1
    case measure => have:=HK1.out;omega
    case rel => exact ⟨(y603),(wrap64 ((wrap64 (x1_1+1)) + 1)),(wrap64 (x5_1+1)),e1_,e1_,H',⟨by have:=HK1.out;omega⟩,⟨kr_ HO_0.out⟩,⟨kt_ HK⟩,⟨bw_ HB⟩⟩
   ·replace H:=so2_ H;obtain ⟨rfl,rfl⟩:=H
    obtain ⟨Ao14,co14,eo14⟩:=Kd.R_slice HO_0.out
    subst eo14
    go_wp2
    go_ret
    exact ⟨e2_,kr_ HO_0.out,bw_ HB,kt_ HK⟩
def bits_RotateLeft32.f (a0:Int) (a1:Int):Option (Int):=if 0≤(Go.bits .and .u64 (IntKind.u64.wrap (a1)) 31) then (if 0≤(IntKind.u64.wrap (32 - (Go.bits .and .u64 (IntKind.u64.wrap (a1)) 31))) then (some (Go.bits .or .u32 (shl .u32 a0 (Go.bits .and .u64 (IntKind.u64.wrap (a1)) 31)) (shr .u32 a0 (IntKind.u64.wrap (32 - (Go.bits .and .u64 (IntKind.u64.wrap (a1)) 31)))))) else (none)) else (none)
theorem bits_RotateLeft32.calls (a0:Int) (a1:Int) (r:Int) (w:World) (h:bits_RotateLeft32.f a0 a1=some r) :
  Calls Tryz.prog 171 #[.int .u32 a0,.int .i64 a1] w fun e w'=>e = .returned (.int .u32 r)∧Drawn0 w w':=by
 have H:(if 0≤(Go.bits .and .u64 (IntKind.u64.wrap (a1)) 31) then (if 0≤(IntKind.u64.wrap (32 - (Go.bits .and .u64 (IntKind.u64.wrap (a1)) 31))) then (some (Go.bits .or .u32 (shl .u32 a0 (Go.bits .and .u64 (IntKind.u64.wrap (a1)) 31)) (shr .u32 a0 (IntKind.u64.wrap (32 - (Go.bits .and .u64 (IntKind.u64.wrap (a1)) 31)))))) else (none)) else (none))=some r:=h
 clear h
 generalize hji3:(Go.bits .and .u64 (IntKind.u64.wrap (a1)) 31)=ji3 at H
 replace H:=ip_ H;obtain ⟨c4,H⟩:=H
 have c4b0:=eq_true c4
 have c4b1:=decide_eq_true c4
 clear c4
 generalize hji5:(shl .u32 a0 (ji3))=ji5 at H
 have hji5_:(IntKind.u32.wrap (a0 * 2 ^ min (ji3).toNat 32))=ji5:=hji5
 have hji5z:(ji3)≤32->(IntKind.u32.wrap (a0 * 2 ^ (ji3).toNat))=ji5:=shl_small hji5
 generalize hji6:(IntKind.u64.wrap (32 - (ji3)))=ji6 at H
 replace H:=ip_ H;obtain ⟨c7,H⟩:=H
 have c7b0:=eq_true c7
 have c7b1:=decide_eq_true c7
 clear c7
 generalize hji8:(shr .u32 a0 (ji6))=ji8 at H
 have hji8_:(a0 / 2 ^ min (ji6).toNat 32)=ji8:=hji8
 have hji8z:(ji6)≤32->(a0 / 2 ^ (ji6).toNat)=ji8:=shr_small hji8
 obtain rfl:=Option.some.inj H
 go_enter Tryz.func171,Tryz.ntmps171
 go_wp2
 go_ret
 exact ⟨by first|rfl|(simp;done)|(simp only [← hji3,← hji5,← hji6,← hji8] <;> (first|rfl|simp))|(simp [*];done),dw_⟩
def rotr (x:Int) (n:Nat):Int:=Go.bits .or .u32 (shl .u32 x (32 - n)) (shr .u32 x n)
theorem rot_of (x k:Int) (n:Nat) (h1:Go.bits .and .u64 (IntKind.u64.wrap k) 31=32 - (n:Int)) (h2:IntKind.u64.wrap (32 - (32 - (n:Int)))=(n:Int)) (hn:n≤32):bits_RotateLeft32.f x k=some (rotr x n):=by
 unfold bits_RotateLeft32.f rotr
 rw [h1,h2,if_pos (by omega),if_pos (by omega)]
theorem rot2 (x:Int):bits_RotateLeft32.f x (-2)=some (rotr x 2):=rot_of x _ 2 (by decide +kernel) (by decide +kernel) (by decide)
theorem rot6 (x:Int):bits_RotateLeft32.f x (-6)=some (rotr x 6):=rot_of x _ 6 (by decide +kernel) (by decide +kernel) (by decide)
theorem rot7 (x:Int):bits_RotateLeft32.f x (-7)=some (rotr x 7):=rot_of x _ 7 (by decide +kernel) (by decide +kernel) (by decide)
theorem rot11 (x:Int):bits_RotateLeft32.f x (-11)=some (rotr x 11):=rot_of x _ 11 (by decide +kernel) (by decide +kernel) (by decide)
theorem rot13 (x:Int):bits_RotateLeft32.f x (-13)=some (rotr x 13):=rot_of x _ 13 (by decide +kernel) (by decide +kernel) (by decide)
theorem rot17 (x:Int):bits_RotateLeft32.f x (-17)=some (rotr x 17):=rot_of x _ 17 (by decide +kernel) (by decide +kernel) (by decide)
theorem rot18 (x:Int):bits_RotateLeft32.f x (-18)=some (rotr x 18):=rot_of x _ 18 (by decide +kernel) (by decide +kernel) (by decide)
theorem rot19 (x:Int):bits_RotateLeft32.f x (-19)=some (rotr x 19):=rot_of x _ 19 (by decide +kernel) (by decide +kernel) (by decide)
theorem rot22 (x:Int):bits_RotateLeft32.f x (-22)=some (rotr x 22):=rot_of x _ 22 (by decide +kernel) (by decide +kernel) (by decide)
theorem rot25 (x:Int):bits_RotateLeft32.f x (-25)=some (rotr x 25):=rot_of x _ 25 (by decide +kernel) (by decide +kernel) (by decide)
def be32 (bs:List Int) (i:Nat):Int:=Go.bits .or .u32 (Go.bits .or .u32 (Go.bits .or .u32 (rd bs (4 * (i:Int)) % 4294967296 * 16777216 % 4294967296) (rd bs (4 * (i:Int) + 1) % 4294967296 * 65536 % 4294967296)) (rd bs (4 * (i:Int) + 2) % 4294967296 * 256 % 4294967296)) (rd bs (4 * (i:Int) + 3) % 4294967296)
def wMix (a16 a15 a7 a2:Int):Int:=(a16+Go.bits .xor .u32 (Go.bits .xor .u32 (rotr a15 7) (rotr a15 18)) (a15 / 8) + a7+Go.bits .xor .u32 (Go.bits .xor .u32 (rotr a2 17) (rotr a2 19)) (a2 / 1024)) % 4294967296
def wAt (bs:List Int):Nat->List Int
 | 0=>List.replicate 64 0
 | i+1=>(wAt bs i).set i (if i < 16 then be32 bs i else wMix ((wAt bs i).getD (i - 16) 0) ((wAt bs i).getD (i - 15) 0) ((wAt bs i).getD (i - 7) 0) ((wAt bs i).getD (i - 2) 0))
theorem wAt_length (bs:List Int) (i:Nat):(wAt bs i).length=64:=by
 induction i with
 | zero=>simp [wAt]
 | succ i ih=>simp [wAt,ih]
def arrU (ys:List Int):Array Value:=(nums .u32 ys).toArray
theorem arrU_get {ys:List Int} {i:Nat} (h:i < ys.length):(arrU ys)[i]?=some (.int .u32 (ys.getD i 0)):=by
 simp [arrU,nums,List.getElem?_eq_getElem h,List.getD_eq_getElem?_getD]
theorem arrU_set (ys:List Int) (i:Nat) (v:Int):(arrU ys).setIfInBounds i (.int .u32 v)=arrU (ys.set i v):=by
 simp [arrU,nums,List.map_set]
theorem bytes_at {w:World} {A:Option Addr} {n:Nat} {bs:List Int} (h:Kd.C (Kd.int .u8) w A n bs) (h0:0 < n):∃ ad,A=some ad∧ad.block < w.heap.size∧∀ i:Nat,i < n->w.cell? (ad.add i)=some (.int .u8 (rd bs i)):=by
 obtain ⟨ad,e,hcell⟩:=h.2.2 h0
 have hl:=h.1
 have hby:∀ i:Nat,i < n->w.cell? (ad.add i)=some (.int .u8 (rd bs i)):=by
  intro i hi
  obtain ⟨x,hx⟩:∃ x,bs[i]?=some x:=⟨bs[i],List.getElem?_eq_getElem (by omega)⟩
  obtain ⟨cs,_,hk,hcc⟩:=hcell i x hx
  have hk2:cs=[.int .u8 x]:=hk
  have:=hcc 0 (.int .u8 x) (by rw [hk2];rfl)
  rw [show i * (Kd.int .u8).sz+0=i from by simp [Kd.int,Kd.scalar]] at this
  rw [this]
  unfold rd
  simp [List.getD_eq_getElem?_getD,hx]
 have had:=World.block_lt_of_cell? w _ (hby 0 h0)
 exact ⟨ad,e,by simpa [Addr.add] using had,hby⟩
set_option maxHeartbeats 4000000 in
theorem wordsOf_calls (A:Option Addr) (c:Nat) (bs:List Int) (w:World) (hr:Kd.C (Kd.int .u8) w A bs.length bs) (hl:bs.length=64) :
  Calls Tryz.prog 170 #[.slice A bs.length c] w fun e w'=>∃ g,e = .returned (.pointer (some ⟨g,0,none⟩))∧w.heap.size≤g∧w'.heap[g]?=some (.cells (arrU (wAt bs 64)) 170 (0,0))∧Below w.heap.size w w':=by
 have HL:=am_ hl
 obtain ⟨ad,rfl,hadl,hby⟩:=bytes_at hr (by omega)
 have HAD:=am_ hadl
 have HBY:=am_ hby
 clear hr hl hby hadl
 go_enter Tryz.func170,Tryz.ntmps170
 go_wp2
 go_loopw [10] (fun i W=>∃ k:Nat,k≤16∧i = .int .i64 k∧Aside0 (W.heap[w.heap.size]?=some (.cells (arrU (wAt bs k)) 170 (0,0)))∧Aside0 (Below w.heap.size w W)) (fun i _=>16 - (intOf i).toNat)
 case atStart =>
  refine ⟨0,by omega,rfl,⟨?_⟩,⟨(Below.refl _ _).alloc (Nat.le_refl _) _⟩⟩
  rw [blk_new]
  rfl
 case round =>
  obtain ⟨k,hk,rfl,HG,HB⟩:=hrel
  by_cases hlt:k < 16
  ·have hb11:decide ((k:Int) < 16)=true:=decide_eq_true (by omega)
   have hblk:∀ i:Nat,(ad.add i).block=ad.block:=fun i=>by unfold Addr.add;split <;> rfl
   have hL:=HL.out
   have ee:∀ i:Nat,i < 64->wr.cell? (ad.add i)=some (.int .u8 (rd bs i)):=fun i hi=>(HB.out.cell (by rw [hblk];exact HAD.out)).trans (HBY.out i (by omega))
   have e0:=ee (4 * k) (by omega)
   have hpl:∀ i:Nat,ad.add (i+1)=⟨ad.block,ad.off+(i+1),none⟩:=fun i=>by unfold Addr.add;rw [if_neg (by omega)]
   have e1':wr.cell? ⟨ad.block,ad.off+(4 * k+1),none⟩=some (.int .u8 (rd bs (4 * (k:Int) + 1))):=by rw [← hpl];exact ee (4 * k+1) (by omega)
   have e2':wr.cell? ⟨ad.block,ad.off+(4 * k+1+1),none⟩=some (.int .u8 (rd bs (4 * (k:Int) + 2))):=by rw [← hpl];exact ee (4 * k+2) (by omega)
   have e3':wr.cell? ⟨ad.block,ad.off+(4 * k+2+1),none⟩=some (.int .u8 (rd bs (4 * (k:Int) + 3))):=by rw [← hpl];exact ee (4 * k+3) (by omega)
   have e2'':wr.cell? ⟨ad.block,ad.off+(4 * k+2),none⟩=some (.int .u8 (rd bs (4 * (k:Int) + 2))):=e2'
   have e3'':wr.cell? ⟨ad.block,ad.off+(4 * k+3),none⟩=some (.int .u8 (rd bs (4 * (k:Int) + 3))):=e3'
   clear ee hblk hpl
   have hcl:wr.cell? ⟨w.heap.size,k,none⟩=some (.int .u32 ((wAt bs k).getD k 0)):=(blk_cell HG.out k).trans (arrU_get (by rw [wAt_length];omega))
   obtain ⟨old,hold⟩:∃ old,old=(wAt bs k).getD k 0:=⟨_,rfl⟩
   rw [← hold] at hcl
   clear hold
   have hfl:=blk_frozen HG.out k
   have s0:IntKind.i64.wrap (4 * (k:Int))=4 * (k:Int):=IntWalk.i64_in _ ⟨by omega,by omega⟩
   have s1:IntKind.i64.wrap (4 * (k:Int) + 1)=4 * (k:Int) + 1:=IntWalk.i64_in _ ⟨by omega,by omega⟩
   have s2:IntKind.i64.wrap (4 * (k:Int) + 2)=4 * (k:Int) + 2:=IntWalk.i64_in _ ⟨by omega,by omega⟩
   have s3:IntKind.i64.wrap (4 * (k:Int) + 3)=4 * (k:Int) + 3:=IntWalk.i64_in _ ⟨by omega,by omega⟩
   have p0:0≤4 * (k:Int):=by omega
   have p1:0≤4 * (k:Int) + 1:=by omega
   have p2:0≤4 * (k:Int) + 2:=by omega
   have p3:0≤4 * (k:Int) + 3:=by omega
   have l0:4 * (k:Int) < (bs.length:Int):=by omega
   have l1:4 * (k:Int) + 1 < (bs.length:Int):=by omega
   have l2:4 * (k:Int) + 2 < (bs.length:Int):=by omega
   have l3:4 * (k:Int) + 3 < (bs.length:Int):=by omega
   have l4:(k:Int) < 64:=by omega
   have t0:(4 * (k:Int)).toNat=4 * k:=by omega
   have t1:(4 * (k:Int) + 1).toNat=4 * k+1:=by omega
   have t2:(4 * (k:Int) + 2).toNat=4 * k+2:=by omega
   have t3:(4 * (k:Int) + 3).toNat=4 * k+3:=by omega
   clear hL
   go_wp2
   go_region
   go_wp2
   go_roundw
   case rel =>
    refine ⟨k+1,by omega,by go_num,⟨?_⟩,⟨HB.out.drew.setCell (Nat.le_refl _) _⟩⟩
    have hs:=blk_set (blk_drew HG.out) k (.int .u32 (be32 bs k))
    rw [arrU_set] at hs
    rw [show wAt bs (k+1)=(wAt bs k).set k (be32 bs k) from by simp [wAt,hlt]]
    exact hs
   case measure => simp [intOf];omega
  ·obtain rfl:k=16:=by omega
   have hb11:decide (((16:Nat):Int) < 16)=false:=by decide
   obtain ⟨wo,rfl⟩:∃ wo:World,wo=wr:=⟨_,rfl⟩
   go_wp2
   go_loopw [5] (fun i W=>∃ k:Nat,16≤k∧k≤64∧i = .int .i64 k∧Aside0 (W.heap[w.heap.size]?=some (.cells (arrU (wAt bs k)) 170 (0,0)))∧Aside0 (Below w.heap.size w W)) (fun i _=>64 - (intOf i).toNat)
   case atStart => exact ⟨16,by omega,by omega,rfl,HG,HB⟩
   case round =>
    clear hk hlt hb11 HG HB
    obtain ⟨k,hk1,hk2,rfl,HG,HB⟩:=hrel
    by_cases hlt:k < 64
    ·have hb50:decide ((k:Int) < 64)=true:=decide_eq_true (by omega)
     have cc:∀ j:Nat,j < 64->wr.cell? ⟨w.heap.size,j,none⟩=some (.int .u32 ((wAt bs k).getD j 0)):=fun j hj=>(blk_cell HG.out j).trans (arrU_get (by rw [wAt_length];exact hj))
     obtain ⟨a16,g16⟩:∃ a,(wAt bs k).getD (k - 16) 0=a:=⟨_,rfl⟩
     obtain ⟨a15,g15⟩:∃ a,(wAt bs k).getD (k - 15) 0=a:=⟨_,rfl⟩
     obtain ⟨a7,g7⟩:∃ a,(wAt bs k).getD (k - 7) 0=a:=⟨_,rfl⟩
     obtain ⟨a2,g2⟩:∃ a,(wAt bs k).getD (k - 2) 0=a:=⟨_,rfl⟩
     obtain ⟨a0,g0⟩:∃ a,(wAt bs k).getD k 0=a:=⟨_,rfl⟩
     have c16:=cc (k - 16) (by omega)
     have c15:=cc (k - 15) (by omega)
     have c7:=cc (k - 7) (by omega)
     have c2:=cc (k - 2) (by omega)
     have c0:=cc k hlt
     rw [g16] at c16
     rw [g15] at c15
     rw [g7] at c7
     rw [g2] at c2
     rw [g0] at c0
     have G:=am_ (show wAt bs (k+1)=(wAt bs k).set k (wMix a16 a15 a7 a2) from by simp only [wAt];rw [if_neg (by omega),g16,g15,g7,g2])
     clear cc g16 g15 g7 g2 g0
     have hf0:=blk_frozen HG.out k
     have s16:IntKind.i64.wrap ((k:Int) - 16)=(k:Int) - 16:=IntWalk.i64_in _ ⟨by omega,by omega⟩
     have s15:IntKind.i64.wrap ((k:Int) - 15)=(k:Int) - 15:=IntWalk.i64_in _ ⟨by omega,by omega⟩
     have s7:IntKind.i64.wrap ((k:Int) - 7)=(k:Int) - 7:=IntWalk.i64_in _ ⟨by omega,by omega⟩
     have s2:IntKind.i64.wrap ((k:Int) - 2)=(k:Int) - 2:=IntWalk.i64_in _ ⟨by omega,by omega⟩
     have p16:0≤(k:Int) - 16:=by omega
     have p15:0≤(k:Int) - 15:=by omega
     have p7:0≤(k:Int) - 7:=by omega
     have p2:0≤(k:Int) - 2:=by omega
     have q16:16≤(k:Int):=by omega
     have q15:15≤(k:Int):=by omega
     have q7:7≤(k:Int):=by omega
     have q2:2≤(k:Int):=by omega
     have l16:(k:Int) - 16 < 64:=by omega
     have l15:(k:Int) - 15 < 64:=by omega
     have l7:(k:Int) - 7 < 64:=by omega
     have l2:(k:Int) - 2 < 64:=by omega
     have l0:(k:Int) < 64:=by omega
     have t16:((k:Int) - 16).toNat=k - 16:=by omega
     have t15:((k:Int) - 15).toNat=k - 15:=by omega
     have t7:((k:Int) - 7).toNat=k - 7:=by omega
     have t2:((k:Int) - 2).toNat=k - 2:=by omega
     go_wp2
     go_region
     go_wp2_with (first|(go_at_call 171;(first|(with_reducible refine (bits_RotateLeft32.calls _ _ _ _ (rot7 _)).mono ?_)|(with_reducible refine (bits_RotateLeft32.calls _ _ _ _ (rot18 _)).mono ?_)|(with_reducible refine (bits_RotateLeft32.calls _ _ _ _ (rot17 _)).mono ?_)|(with_reducible refine (bits_RotateLeft32.calls _ _ _ _ (rot19 _)).mono ?_));rintro e w' ⟨rfl,⟨nd,rfl⟩⟩))
     go_region
     go_wp2
     go_roundw
     case rel =>
      (repeat apply Exists.intro)
      exact ⟨⟨k+1,by omega,by omega,by go_num,⟨by rw [G.out,← arrU_set];refine blk_set ?_ k _;exact HG.out⟩,⟨by refine Below.setCell (p:=⟨w.heap.size,k,none⟩) ?_ (Nat.le_refl _) _;exact pw_below_drewN HB.out _⟩⟩,rfl⟩
     case measure => simp [intOf];omega
    ·obtain rfl:k=64:=by omega
     have hb50:decide (((64:Nat):Int) < 64)=false:=by decide
     go_wp2
     go_ret
     exact ⟨_,rfl,Nat.le_refl _,HG.out,HB.out⟩
end Go.Proofs.YtnlndmoecljicaaGreat.Q
end
