-- Joined and shortened by a program of this session (wip/tools/shakecopy.py): the words of the print,texts of pp.sh and of mine.
import Derived.Test.YtnlndmoecljicaaGreatKFnCrashed4
set_option linter.unusedVariables false
set_option linter.unusedSimpArgs false
section
namespace Go.Proofs.YtnlndmoecljicaaGreat.Q
open Go.Proofs.YtnlndmoecljicaaGreat.B Go.Proofs.YtnlndmoecljicaaGreatW.PrintMore Go.Proofs.YtnlndmoecljicaaGreatW.PrintWords Go.RowKit
set_option maxHeartbeats 8000000
set_option maxRecDepth 100000
def U (x:Int):Prop:=0≤x∧x < 4294967296
theorem U_bits (op:BinOp) (a b:Int):U (Go.bits op .u32 a b):=by
 unfold Go.bits U
 rw [IntKind.wrap_u32]
 omega
theorem U_mod (x:Int):U (x % 4294967296):=by unfold U;omega
theorem wraps63 (n:Int) (h₀:0≤n) (h₁:n < 2 ^ 63):IntKind.i64.wrap n=n:=by rw [IntKind.wrap_i64];omega
theorem wraps32 (n:Int) (h₀:0≤n) (h₁:n < 2 ^ 32):IntKind.u32.wrap n=n:=by rw [IntKind.wrap_u32];omega
theorem bits_xor_nat (k:IntKind) (j:Nat) (hj:j≤k.bits) (hk:∀ n:Int,0≤n->n < 2 ^ j->k.wrap n=n) (a b:Nat) (ha:a < 2 ^ j) (hb:b < 2 ^ j):Go.bits .xor k a b=((a ^^^ b:Nat):Int):=by
 have hp:2 ^ j≤2 ^ k.bits:=Nat.pow_le_pow_right (by decide) hj
 have ha':a % 2 ^ k.bits=a:=Nat.mod_eq_of_lt (Nat.lt_of_lt_of_le ha hp)
 have hb':b % 2 ^ k.bits=b:=Nat.mod_eq_of_lt (Nat.lt_of_lt_of_le hb hp)
 have cast:∀ n:Nat,n < 2 ^ j->((n:Nat):Int) < 2 ^ j:=fun n h=>by exact_mod_cast h
 simp only [Go.bits,BitVec.ofInt_natCast,BitVec.toNat_xor,BitVec.toNat_ofNat,ha',hb']
 exact hk _ (Int.natCast_nonneg _) (cast _ (Nat.xor_lt_two_pow ha hb))
theorem xor_eq {a b:Int} (ha:U a) (hb:U b):Go.bits .xor .i64 a b=Go.bits .xor .u32 a b:=by
 obtain ⟨a,rfl⟩:=Int.eq_ofNat_of_zero_le ha.1
 obtain ⟨b,rfl⟩:=Int.eq_ofNat_of_zero_le hb.1
 have h1:=ha.2
 have h2:=hb.2
 rw [bits_xor_nat .i64 63 (by decide) wraps63 a b (by omega) (by omega),bits_xor_nat .u32 32 (by decide) wraps32 a b (by omega) (by omega)]
theorem and_eq {a b:Int} (ha:U a) (hb:U b):Go.bits .and .i64 a b=Go.bits .and .u32 a b:=by
 obtain ⟨a,rfl⟩:=Int.eq_ofNat_of_zero_le ha.1
 obtain ⟨b,rfl⟩:=Int.eq_ofNat_of_zero_le hb.1
 have h1:=ha.2
 have h2:=hb.2
 rw [(bits_nat .i64 63 (by decide) wraps63 a b (by omega) (by omega)).1,(bits_nat .u32 32 (by decide) wraps32 a b (by omega) (by omega)).1]
theorem or_eq {a b:Int} (ha:U a) (hb:U b):Go.bits .or .i64 a b=Go.bits .or .u32 a b:=by
 obtain ⟨a,rfl⟩:=Int.eq_ofNat_of_zero_le ha.1
 obtain ⟨b,rfl⟩:=Int.eq_ofNat_of_zero_le hb.1
 have h1:=ha.2
 have h2:=hb.2
 rw [(bits_nat .i64 63 (by decide) wraps63 a b (by omega) (by omega)).2,(bits_nat .u32 32 (by decide) wraps32 a b (by omega) (by omega)).2]
theorem mask32 {x:Int} (h0:0≤x) (h1:x < 9223372036854775808):Go.bits .and .i64 x 4294967295=x % 4294967296 :=
 bits_mask .i64 63 (by decide) wraps63 32 (by decide) x h0 h1
theorem xor3_eq {a b c:Int} (ha:U a) (hb:U b) (hc:U c):Go.bits .xor .i64 (Go.bits .xor .i64 a b) c=Go.bits .xor .u32 (Go.bits .xor .u32 a b) c:=by
 rw [xor_eq ha hb,xor_eq (U_bits _ _ _) hc]
theorem U_rotr (a:Int) (n:Nat):U (rotr a n):=U_bits _ _ _
theorem turn_eq {a:Int} (n:Nat) (ha:U a) (h2:2≤n) (hn:n≤32) (i1:IntKind.u64.wrap (n:Int)=n) (i2:IntKind.u64.wrap (wrap64 (32 - (n:Int)))=32 - (n:Int)):spec_l2Turn.f a n=some (rotr a n):=by
 unfold spec_l2Turn.f rotr
 rw [i1,i2,if_pos (by omega),if_pos (by omega)]
 congr 1
 obtain ⟨a,rfl⟩:=Int.eq_ofNat_of_zero_le ha.1
 have h1:a < 2 ^ 32:=by have:=ha.2;omega
 have hsub:(32 - (n:Int)).toNat=32 - n:=by omega
 have e1:shr .i64 (a:Int) n=((a / 2 ^ n:Nat):Int):=by
  unfold shr
  rw [show min (n:Int).toNat IntKind.i64.bits=n from by simp [IntKind.bits] <;> omega]
  simp
 have e2:shr .u32 (a:Int) n=((a / 2 ^ n:Nat):Int):=by
  unfold shr
  rw [show min (n:Int).toNat IntKind.u32.bits=n from by simp [IntKind.bits] <;> omega]
  simp
 have hpow:a * 2 ^ (32 - n) < 2 ^ 62:=by
  have:2 ^ (32 - n)≤2 ^ 30:=Nat.pow_le_pow_right (by decide) (by omega)
  calc a * 2 ^ (32 - n)≤a * 2 ^ 30:=Nat.mul_le_mul_left _ this
   _ < 2 ^ 32 * 2 ^ 30:=Nat.mul_lt_mul_of_pos_right h1 (by decide)
   _=2 ^ 62:=by decide
 have hcast:((a:Int) * 2 ^ (32 - n))=((a * 2 ^ (32 - n):Nat):Int):=by simp
 have e3:shl .i64 (a:Int) (32 - (n:Int))=((a * 2 ^ (32 - n):Nat):Int):=by
  unfold shl
  rw [show min (32 - (n:Int)).toNat IntKind.i64.bits=32 - n from by simp [IntKind.bits] <;> omega,hcast,wraps63 _ (by omega) (by omega)]
 have e4:shl .u32 (a:Int) (32 - (n:Int))=((a * 2 ^ (32 - n) % 2 ^ 32:Nat):Int):=by
  unfold shl
  rw [show min (32 - (n:Int)).toNat IntKind.u32.bits=32 - n from by simp [IntKind.bits] <;> omega,hcast,IntKind.wrap_u32]
  omega
 have hd:a / 2 ^ n < 2 ^ 32:=Nat.lt_of_le_of_lt (Nat.div_le_self _ _) h1
 rw [e1,e2,e3,e4,(bits_nat .i64 63 (by decide) wraps63 _ _ (by omega) (by omega)).2]
 have hor:a / 2 ^ n ||| a * 2 ^ (32 - n) < 2 ^ 63:=Nat.or_lt_two_pow (by omega) (by omega)
 rw [mask32 (by omega) (by omega),(bits_nat .u32 32 (by decide) wraps32 _ _ (Nat.mod_lt _ (by decide)) hd).2]
 have hm:(a / 2 ^ n ||| a * 2 ^ (32 - n)) % 2 ^ 32=a * 2 ^ (32 - n) % 2 ^ 32 ||| a / 2 ^ n:=by
  rw [Nat.or_mod_two_pow,Nat.mod_eq_of_lt hd,Nat.or_comm]
 rw [← hm]
 simp
theorem turn2 {a:Int} (ha:U a):spec_l2Turn.f a 2=some (rotr a 2):=turn_eq 2 ha (by decide) (by decide) (by decide +kernel) (by decide +kernel)
theorem turn6 {a:Int} (ha:U a):spec_l2Turn.f a 6=some (rotr a 6):=turn_eq 6 ha (by decide) (by decide) (by decide +kernel) (by decide +kernel)
theorem turn7 {a:Int} (ha:U a):spec_l2Turn.f a 7=some (rotr a 7):=turn_eq 7 ha (by decide) (by decide) (by decide +kernel) (by decide +kernel)
theorem turn11 {a:Int} (ha:U a):spec_l2Turn.f a 11=some (rotr a 11):=turn_eq 11 ha (by decide) (by decide) (by decide +kernel) (by decide +kernel)
theorem turn13 {a:Int} (ha:U a):spec_l2Turn.f a 13=some (rotr a 13):=turn_eq 13 ha (by decide) (by decide) (by decide +kernel) (by decide +kernel)
theorem turn17 {a:Int} (ha:U a):spec_l2Turn.f a 17=some (rotr a 17):=turn_eq 17 ha (by decide) (by decide) (by decide +kernel) (by decide +kernel)
theorem turn18 {a:Int} (ha:U a):spec_l2Turn.f a 18=some (rotr a 18):=turn_eq 18 ha (by decide) (by decide) (by decide +kernel) (by decide +kernel)
theorem turn19 {a:Int} (ha:U a):spec_l2Turn.f a 19=some (rotr a 19):=turn_eq 19 ha (by decide) (by decide) (by decide +kernel) (by decide +kernel)
theorem turn22 {a:Int} (ha:U a):spec_l2Turn.f a 22=some (rotr a 22):=turn_eq 22 ha (by decide) (by decide) (by decide +kernel) (by decide +kernel)
theorem turn25 {a:Int} (ha:U a):spec_l2Turn.f a 25=some (rotr a 25):=turn_eq 25 ha (by decide) (by decide) (by decide +kernel) (by decide +kernel)
theorem be_eq {b0 b1 b2 b3:Int} (h0:0≤b0∧b0≤255) (h1:0≤b1∧b1≤255) (h2:0≤b2∧b2≤255) (h3:0≤b3∧b3≤255) :
  Go.bits .or .i64 (Go.bits .or .i64 (Go.bits .or .i64 (wrap64 (wrap64 b0 * 16777216)) (wrap64 (wrap64 b1 * 65536))) (wrap64 (wrap64 b2 * 256))) (wrap64 b3) =
  Go.bits .or .u32 (Go.bits .or .u32 (Go.bits .or .u32 (b0 % 4294967296 * 16777216 % 4294967296) (b1 % 4294967296 * 65536 % 4294967296)) (b2 % 4294967296 * 256 % 4294967296)) (b3 % 4294967296):=by
 have e0:b0 % 4294967296 * 16777216 % 4294967296=wrap64 (wrap64 b0 * 16777216):=by rw [w64 (x:=b0) (by omega) (by omega),w64 (by omega) (by omega)];omega
 have e1:b1 % 4294967296 * 65536 % 4294967296=wrap64 (wrap64 b1 * 65536):=by rw [w64 (x:=b1) (by omega) (by omega),w64 (by omega) (by omega)];omega
 have e2:b2 % 4294967296 * 256 % 4294967296=wrap64 (wrap64 b2 * 256):=by rw [w64 (x:=b2) (by omega) (by omega),w64 (by omega) (by omega)];omega
 have e3:b3 % 4294967296=wrap64 b3:=by rw [w64 (x:=b3) (by omega) (by omega)];omega
 rw [← e0,← e1,← e2,← e3,or_eq (U_mod _) (U_mod _),or_eq (U_bits _ _ _) (U_mod _),or_eq (U_bits _ _ _) (U_mod _)]
theorem getD_range {p:Int->Prop} {bs:List Int} (h:∀ x ∈ bs,p x) (h0:p 0) (i:Nat):p (bs.getD i 0):=by
 rw [List.getD_eq_getElem?_getD]
 rcases hx:bs[i]? with _|x
 ·exact h0
 ·exact h x (List.mem_of_getElem? hx)
theorem rd_range {p:Int->Prop} {bs:List Int} (h:∀ x ∈ bs,p x) (h0:p 0) (i:Int):p (rd bs i):=getD_range h h0 _
theorem U0:U 0:=by unfold U;omega
theorem wAt_U (bs:List Int) (i:Nat):∀ x ∈ wAt bs i,U x:=by
 induction i with
 | zero =>
  intro x hx
  simp [wAt] at hx
  rw [hx]
  exact U0
 | succ i ih =>
  intro x hx
  simp only [wAt] at hx
  rcases List.mem_or_eq_of_mem_set hx with hx|rfl
  ·exact ih x hx
  ·split
   ·exact U_bits _ _ _
   ·exact U_mod _
theorem rd_take {l:List Int} {i j:Nat} (h:j < i):rd (l.take i) (j:Int)=l.getD j 0:=by
 unfold rd
 rw [Int.toNat_natCast,List.getD_eq_getElem?_getD,List.getElem?_take,if_pos h,List.getD_eq_getElem?_getD]
theorem wAt_next (bs:List Int) (i:Nat) (hi:i < 64):(wAt bs (i+1)).take (i+1)=(wAt bs i).take i ++ [if i < 16 then be32 bs i else wMix ((wAt bs i).getD (i - 16) 0) ((wAt bs i).getD (i - 15) 0) ((wAt bs i).getD (i - 7) 0) ((wAt bs i).getD (i - 2) 0)]:=by
 simp only [wAt]
 exact set_take _ (by rw [wAt_length];exact hi)
theorem taken_length (bs:List Int) (i:Nat) (hi:i≤64):((wAt bs i).take i).length=i:=by rw [List.length_take,wAt_length];omega
theorem mix_eq {a16 a15 a7 a2:Int} (h16:U a16) (h15:U a15) (h7:U a7) (h2:U a2) :
  Go.bits .and .i64 (wrap64 ((wrap64 ((wrap64 (a16+(Go.bits .xor .i64 (Go.bits .xor .i64 (rotr a15 7) (rotr a15 18)) (a15 / 8)))) + a7)) + (Go.bits .xor .i64 (Go.bits .xor .i64 (rotr a2 17) (rotr a2 19)) (a2 / 1024)))) 4294967295=wMix a16 a15 a7 a2:=by
 have d15:U (a15 / 8):=by unfold U at *;omega
 have d2:U (a2 / 1024):=by unfold U at *;omega
 rw [xor3_eq (U_rotr _ _) (U_rotr _ _) d15,xor3_eq (U_rotr _ _) (U_rotr _ _) d2]
 unfold wMix
 have u1:=U_bits .xor (Go.bits .xor .u32 (rotr a15 7) (rotr a15 18)) (a15 / 8)
 have u2:=U_bits .xor (Go.bits .xor .u32 (rotr a2 17) (rotr a2 19)) (a2 / 1024)
 generalize Go.bits .xor .u32 (Go.bits .xor .u32 (rotr a15 7) (rotr a15 18)) (a15 / 8)=s1 at u1 ⊢
 generalize Go.bits .xor .u32 (Go.bits .xor .u32 (rotr a2 17) (rotr a2 19)) (a2 / 1024)=s2 at u2 ⊢
 unfold U at *
 rw [w64 (x:=a16+s1) (by omega) (by omega),w64 (x:=a16+s1+a7) (by omega) (by omega),w64 (by omega) (by omega),mask32 (by omega) (by omega)]
theorem words_l1 (bs:List Int):∀ (d i:Nat),i+d=64->16≤i->Ev (fun k=>spec_l2Words.l1 k ((wAt bs i).take i) (i:Int)) (wAt bs 64):=by
 intro d
 induction d with
 | zero =>
  intro i hi _
  obtain rfl:i=64:=by omega
  refine Ev.step (f:=fun _=>some ((wAt bs 64).take 64)) (fun k=>?_) (Ev.one (Ev.now _) (List.take_of_length_le (by rw [wAt_length];exact Nat.le_refl _)))
  simp only [spec_l2Words.l1]
  rw [if_neg (by omega)]
 | succ d ih =>
  intro i hi h16
  have hlen:=taken_length bs i (by omega)
  have u:∀ j,U ((wAt bs i).getD j 0):=fun j=>getD_range (wAt_U bs i) U0 j
  refine Ev.step (fun k=>?_) (Ev.one (ih (i+1) (by omega) (by omega)) rfl)
  simp only [spec_l2Words.l1]
  rw [if_pos (by omega),w64 (x:=(i:Int) - 15) (by omega) (by omega),w64 (x:=(i:Int) - 2) (by omega) (by omega),w64 (x:=(i:Int) - 16) (by omega) (by omega),w64 (x:=(i:Int) - 7) (by omega) (by omega),w64 (x:=(i:Int) + 1) (by omega) (by omega),if_pos (by omega),if_pos (by omega),if_pos (by omega),if_pos (by omega)]
  rw [show (i:Int) - 15=((i - 15:Nat):Int) from by omega,show (i:Int) - 2=((i - 2:Nat):Int) from by omega,show (i:Int) - 16=((i - 16:Nat):Int) from by omega,show (i:Int) - 7=((i - 7:Nat):Int) from by omega]
  rw [rd_take (by omega),rd_take (by omega),rd_take (by omega),rd_take (by omega)]
  rw [turn7 (u _),turn18 (u _),turn17 (u _),turn19 (u _)]
  simp only [Option.bind_some]
  rw [if_pos (by omega),if_pos (by omega),if_pos (by omega),if_pos (by omega),if_pos (by omega)]
  rw [mix_eq (u _) (u _) (u _) (u _),wAt_next bs i (by omega),if_neg (show ¬ i < 16 by omega)]
  rfl
theorem words_l0 (bs:List Int) (hl:bs.length=64) (hb:∀ x ∈ bs,0≤x∧x≤255):∀ (d i:Nat),i+d=16->Ev (fun k=>spec_l2Words.l0 k bs ((wAt bs i).take i) (i:Int)) (wAt bs 64):=by
 intro d
 induction d with
 | zero =>
  intro i hi
  obtain rfl:i=16:=by omega
  refine Ev.step (fun k=>?_) (words_l1 bs 48 16 (by omega) (by omega))
  simp only [spec_l2Words.l0]
  rw [if_neg (by omega)]
  rfl
 | succ d ih =>
  intro i hi
  have hlen:=taken_length bs i (by omega)
  have u:∀ j,0≤rd bs j∧rd bs j≤255:=fun j=>rd_range hb (by omega) j
  refine Ev.step (fun k=>?_) (ih (i+1) (by omega))
  simp only [spec_l2Words.l0]
  rw [if_pos (by omega),w64 (x:=4 * (i:Int)) (by omega) (by omega),w64 (x:=4 * (i:Int) + 1) (by omega) (by omega),w64 (x:=4 * (i:Int) + 2) (by omega) (by omega),w64 (x:=4 * (i:Int) + 3) (by omega) (by omega),w64 (x:=(i:Int) + 1) (by omega) (by omega)]
  rw [if_pos (by omega),if_pos (by omega),if_pos (by omega),if_pos (by omega),if_pos (by omega),if_pos (by omega),if_pos (by omega),if_pos (by omega),if_pos (by omega)]
  rw [be_eq (u _) (u _) (u _) (u _),wAt_next bs i (by omega),if_pos (show i < 16 by omega)]
  rfl
theorem words_ev (bs:List Int) (hl:bs.length=64) (hb:∀ x ∈ bs,0≤x∧x≤255):Ev (fun k=>spec_l2Words.f k bs) (wAt bs 64):=words_l0 bs hl hb 16 0 rfl
theorem U_step (kc wc:Int) (v:List Int) (h:∀ x ∈ v,U x):∀ x ∈ turnStep kc wc v,U x:=by
 unfold turnStep
 split
 ·rename_i a b c d e f g h'
  intro x hx
  simp only [List.mem_cons,List.not_mem_nil,or_false] at hx h
  rcases hx with rfl|rfl|rfl|rfl|rfl|rfl|rfl|rfl
  ·exact U_mod _
  ·exact h _ (by simp)
  ·exact h _ (by simp)
  ·exact h _ (by simp)
  ·exact U_mod _
  ·exact h _ (by simp)
  ·exact h _ (by simp)
  ·exact h _ (by simp)
 ·exact h
theorem vAt_U (ks ws hs:List Int) (h:∀ x ∈ hs,U x) (i:Nat):∀ x ∈ vAt ks ws hs i,U x:=by
 induction i with
 | zero=>exact h
 | succ i ih=>exact U_step _ _ _ ih
theorem U_max:U 4294967295:=by unfold U;omega
theorem step_eq {a b c d e f g h kc wc:Int} (ha:U a) (hb:U b) (hc:U c) (hd:U d) (he:U e) (hf:U f) (hg:U g) (hh:U h) (hk:U kc) (hw:U wc) :
  ([Go.bits .and .i64 (wrap64 ((wrap64 ((wrap64 ((wrap64 ((wrap64 (h+(Go.bits .xor .i64 (Go.bits .xor .i64 (rotr e 6) (rotr e 11)) (rotr e 25)))) + (Go.bits .xor .i64 (Go.bits .and .i64 e f) (Go.bits .and .i64 (Go.bits .xor .i64 4294967295 e) g)))) + kc)) + wc)) + (wrap64 ((Go.bits .xor .i64 (Go.bits .xor .i64 (rotr a 2) (rotr a 13)) (rotr a 22)) + (Go.bits .xor .i64 (Go.bits .xor .i64 (Go.bits .and .i64 a b) (Go.bits .and .i64 a c)) (Go.bits .and .i64 b c)))))) 4294967295,a,b,c,
   Go.bits .and .i64 (wrap64 (d+(wrap64 ((wrap64 ((wrap64 ((wrap64 (h+(Go.bits .xor .i64 (Go.bits .xor .i64 (rotr e 6) (rotr e 11)) (rotr e 25)))) + (Go.bits .xor .i64 (Go.bits .and .i64 e f) (Go.bits .and .i64 (Go.bits .xor .i64 4294967295 e) g)))) + kc)) + wc)))) 4294967295,e,f,g]:List Int)=turnStep kc wc [a,b,c,d,e,f,g,h]:=by
 rw [xor3_eq (U_rotr _ _) (U_rotr _ _) (U_rotr _ _),xor3_eq (U_rotr _ _) (U_rotr _ _) (U_rotr _ _),and_eq he hf,xor_eq U_max he,and_eq (U_bits _ _ _) hg,xor_eq (U_bits _ _ _) (U_bits _ _ _),and_eq ha hb,and_eq ha hc,and_eq hb hc,xor3_eq (U_bits _ _ _) (U_bits _ _ _) (U_bits _ _ _)]
 unfold turnStep tT1 tS1 tS0 tMaj
 simp only []
 rw [show IntKind.u32.max=4294967295 from by decide]
 have u1:=U_bits .xor (Go.bits .xor .u32 (rotr e 6) (rotr e 11)) (rotr e 25)
 have u2:=U_bits .xor (Go.bits .and .u32 e f) (Go.bits .and .u32 (Go.bits .xor .u32 4294967295 e) g)
 have u3:=U_bits .xor (Go.bits .xor .u32 (rotr a 2) (rotr a 13)) (rotr a 22)
 have u4:=U_bits .xor (Go.bits .xor .u32 (Go.bits .and .u32 a b) (Go.bits .and .u32 a c)) (Go.bits .and .u32 b c)
 generalize Go.bits .xor .u32 (Go.bits .xor .u32 (rotr e 6) (rotr e 11)) (rotr e 25)=s1 at u1 ⊢
 generalize Go.bits .xor .u32 (Go.bits .and .u32 e f) (Go.bits .and .u32 (Go.bits .xor .u32 4294967295 e) g)=s2 at u2 ⊢
 generalize Go.bits .xor .u32 (Go.bits .xor .u32 (rotr a 2) (rotr a 13)) (rotr a 22)=s3 at u3 ⊢
 generalize Go.bits .xor .u32 (Go.bits .xor .u32 (Go.bits .and .u32 a b) (Go.bits .and .u32 a c)) (Go.bits .and .u32 b c)=s4 at u4 ⊢
 unfold U at *
 rw [w64 (x:=h+s1) (by omega) (by omega),w64 (x:=h+s1+s2) (by omega) (by omega),w64 (x:=h+s1+s2+kc) (by omega) (by omega),w64 (x:=h+s1+s2+kc+wc) (by omega) (by omega),w64 (x:=s3+s4) (by omega) (by omega),w64 (x:=d+(h+s1+s2+kc+wc)) (by omega) (by omega),w64 (by omega) (by omega),mask32 (by omega) (by omega),mask32 (by omega) (by omega)]
 congr 1
 rw [Int.add_assoc (h+s1+s2+kc+wc) s3 s4]
theorem addAt_get (hs vs:List Int) (hv:vs.length=8) (hh:hs.length=8) (i:Nat) (hi:i≤8) (j:Nat) (hj:j < 8):(addAt hs vs i).getD j 0=if j < i then (hs.getD j 0+vs.getD j 0) % 4294967296 else hs.getD j 0:=by
 induction i with
 | zero=>simp [addAt]
 | succ i ih =>
  have ih:=ih (by omega)
  simp only [addAt]
  have hl:(addAt hs vs i).length=8:=by rw [addAt_length];exact hh
  by_cases hji:j=i
  ·subst hji
   rw [List.getD_eq_getElem?_getD,List.getElem?_set_self (by omega),if_pos (by omega)]
   rw [if_neg (by omega)] at ih
   rw [ih]
   rfl
  ·rw [List.getD_eq_getElem?_getD,List.getElem?_set_ne (fun h=>hji h.symm),← List.getD_eq_getElem?_getD,ih]
   by_cases h2:j < i
   ·rw [if_pos h2,if_pos (by omega)]
   ·rw [if_neg h2,if_neg (by omega)]
theorem block_l1 (hs vs:List Int) (hh:hs.length=8) (hv:vs.length=8) (uh:∀ x ∈ hs,U x) (uv:∀ x ∈ vs,U x):∀ (d i:Nat) (x:List Int),i+d=8->x.length=8->(∀ j,j < 8->x.getD j 0=if j < i then (hs.getD j 0+vs.getD j 0) % 4294967296 else vs.getD j 0) →
  Ev (fun k=>spec_l2Block.l1 k hs x (i:Int)) (addAt hs vs 8):=by
 intro d
 induction d with
 | zero =>
  intro i x hi hx hg
  obtain rfl:i=8:=by omega
  refine Ev.step (f:=fun _=>some x) (fun k=>?_) (Ev.one (Ev.now _) ?_)
  ·simp only [spec_l2Block.l1]
   rw [if_neg (by omega)]
  ·have hl:(addAt hs vs 8).length=8:=by rw [addAt_length];exact hh
   refine List.ext_getElem (by rw [hl,hx]) (fun j h1 h2=>?_)
   have e1:=hg j (by omega)
   have e2:=addAt_get hs vs hv hh 8 (by omega) j (by omega)
   rw [if_pos (by omega)] at e1 e2
   rw [← e2] at e1
   simpa [List.getD_eq_getElem?_getD,List.getElem?_eq_getElem h1,List.getElem?_eq_getElem h2] using e1
 | succ d ih =>
  intro i x hi hx hg
  have e1:=hg i (by omega)
  rw [if_neg (by omega)] at e1
  have u1:U (vs.getD i 0):=getD_range uv U0 i
  have u2:U (hs.getD i 0):=getD_range uh U0 i
  have hr1:rd x (i:Int)=vs.getD i 0:=by unfold rd;rw [Int.toNat_natCast];exact e1
  have hr2:rd hs (i:Int)=hs.getD i 0:=by unfold rd;rw [Int.toNat_natCast]
  refine Ev.step (fun k=>?_) (ih (i+1) (x.set i ((hs.getD i 0+vs.getD i 0) % 4294967296)) (by omega) (by simp [hx]) ?_)
  ·simp only [spec_l2Block.l1]
   unfold U at u1 u2
   rw [if_pos (by omega),if_pos (by omega),if_pos (by omega),if_pos (by omega),hr1,hr2,w64 (x:=(i:Int) + 1) (by omega) (by omega),w64 (by omega) (by omega),mask32 (by omega) (by omega),Int.toNat_natCast,Int.add_comm (vs.getD i 0)]
   rfl
  ·intro j hj
   by_cases hji:j=i
   ·subst hji
    rw [List.getD_eq_getElem?_getD,List.getElem?_set_self (by omega),if_pos (by omega)]
    rfl
   ·rw [List.getD_eq_getElem?_getD,List.getElem?_set_ne (fun h=>hji h.symm),← List.getD_eq_getElem?_getD,hg j hj]
    by_cases h2:j < i
    ·rw [if_pos h2,if_pos (by omega)]
    ·rw [if_neg h2,if_neg (by omega)]
theorem block_l0 (ks ws hs:List Int) (hk:ks.length=64) (hw:ws.length=64) (hh:hs.length=8) (uk:∀ x ∈ ks,U x) (uw:∀ x ∈ ws,U x) (uh:∀ x ∈ hs,U x):∀ (d i:Nat),i+d=64 →
  Ev (fun k=>spec_l2Block.l0 k hs ks ws (vAt ks ws hs i) (i:Int)) (addAt hs (vAt ks ws hs 64) 8):=by
 intro d
 induction d with
 | zero =>
  intro i hi
  obtain rfl:i=64:=by omega
  have hl:=vAt_eight ks ws hs hh 64
  refine Ev.step (fun k=>?_) (block_l1 hs (vAt ks ws hs 64) hh hl uh (vAt_U ks ws hs uh 64) 8 0 (vAt ks ws hs 64) rfl hl (fun j _=>by rw [if_neg (by omega)]))
  simp only [spec_l2Block.l0]
  rw [if_neg (by omega)]
  rfl
 | succ d ih =>
  intro i hi
  have hl:=vAt_eight ks ws hs hh i
  have uv:=vAt_U ks ws hs uh i
  have uki:U (ks.getD i 0):=getD_range uk U0 i
  have uwi:U (ws.getD i 0):=getD_range uw U0 i
  have hr1:rd ks (i:Int)=ks.getD i 0:=by unfold rd;rw [Int.toNat_natCast]
  have hr2:rd ws (i:Int)=ws.getD i 0:=by unfold rd;rw [Int.toNat_natCast]
  refine Ev.step (fun k=>?_) (ih (i+1) (by omega))
  have hv:vAt ks ws hs (i+1)=turnStep (ks.getD i 0) (ws.getD i 0) (vAt ks ws hs i):=rfl
  rw [hv]
  generalize vAt ks ws hs i=v at hl uv
  obtain ⟨a,b,c,d,e,f,g,h,rfl⟩:=eight hl
  simp only [List.mem_cons,List.not_mem_nil,or_false] at uv
  have ua:=uv a (by simp)
  have ub:=uv b (by simp)
  have uc:=uv c (by simp)
  have ud:=uv d (by simp)
  have ue:=uv e (by simp)
  have uf:=uv f (by simp)
  have ug:=uv g (by simp)
  have uh':=uv h (by simp)
  simp only [spec_l2Block.l0]
  rw [if_pos (by omega),show rd [a,b,c,d,e,f,g,h] 0=a from rfl,show rd [a,b,c,d,e,f,g,h] 1=b from rfl,show rd [a,b,c,d,e,f,g,h] 2=c from rfl,show rd [a,b,c,d,e,f,g,h] 3=d from rfl,show rd [a,b,c,d,e,f,g,h] 4=e from rfl,show rd [a,b,c,d,e,f,g,h] 5=f from rfl,show rd [a,b,c,d,e,f,g,h] 6=g from rfl,show rd [a,b,c,d,e,f,g,h] 7=h from rfl]
  rw [turn6 ue,turn11 ue,turn25 ue,turn2 ua,turn13 ua,turn22 ua,hr1,hr2]
  simp only [Option.bind_some]
  have l8:(([a,b,c,d,e,f,g,h]:List Int).length:Int)=8:=rfl
  rw [l8,hk,hw]
  rw [if_pos (by omega),if_pos (by omega),if_pos (by omega),if_pos (by omega),if_pos (by omega),if_pos (by omega),if_pos (by omega),if_pos (by omega),if_pos (by omega),if_pos (by omega),if_pos (by omega)]
  rw [step_eq ua ub uc ud ue uf ug uh' uki uwi,w64 (by omega) (by omega)]
  rfl
theorem block_ev (hs bs ks:List Int) (hk:ks.length=64) (hl:bs.length=64) (hh:hs.length=8) (hb:∀ x ∈ bs,0≤x∧x≤255) (uk:∀ x ∈ ks,U x) (uh:∀ x ∈ hs,U x):Ev (fun k=>spec_l2Block.f k hs bs ks) (turned ks bs hs):=by
 unfold spec_l2Block.f
 refine Ev.bind (words_ev bs hl hb) ?_
 refine Ev.congr (fun k=>?_) (block_l0 ks (wAt bs 64) hs hk (wAt_length bs 64) hh uk (wAt_U bs 64) uh 64 0 rfl)
 simp only [Option.bind_some,List.length_nil,List.nil_append]
 rw [if_pos (by omega)]
 rfl
theorem turned_U (ks bs hs:List Int) (hh:hs.length=8) (uh:∀ x ∈ hs,U x):∀ x ∈ turned ks bs hs,U x:=by
 intro x hx
 obtain ⟨j,hj,rfl⟩:=List.mem_iff_getElem.1 hx
 have hl:(turned ks bs hs).length=8:=by rw [turned_length];exact hh
 have:=addAt_get hs (vAt ks (wAt bs 64) hs 64) (vAt_eight _ _ _ hh 64) hh 8 (by omega) j (by omega)
 rw [if_pos (by omega)] at this
 have e:(turned ks bs hs)[j]=(turned ks bs hs).getD j 0:=by simp [List.getD_eq_getElem?_getD,hj]
 rw [e]
 unfold turned
 rw [this]
 exact U_mod _
theorem shaK_U:∀ x ∈ shaK,U x:=by
 have:shaK.all (fun x=>decide (0≤x) && decide (x < 4294967296))=true:=by decide
 intro x hx
 have:=List.all_eq_true.1 this x hx
 simp at this
 exact this
theorem shaH_U:∀ x ∈ shaH,U x:=by
 have:shaH.all (fun x=>decide (0≤x) && decide (x < 4294967296))=true:=by decide
 intro x hx
 have:=List.all_eq_true.1 this x hx
 simp at this
 exact this
theorem foldAt_U (p:List Int) (n:Nat):∀ x ∈ foldAt p (starts n),U x:=by
 induction n with
 | zero=>exact shaH_U
 | succ n ih =>
  rw [starts_succ,foldAt_snoc]
  exact turned_U _ _ _ (foldAt_length _ _) ih
theorem spadded_l1 (n:Int):∀ (j:Nat) (acc:List Int),j≤8->acc.length+j≤140737488355320->Ev (fun k=>spec_Padded.l1 k acc n (8 * (j:Int) - 8)) (acc ++ tailBytes n j):=by
 intro j
 induction j with
 | zero =>
  intro acc _ _
  refine Ev.step (f:=fun _=>some acc) (fun k=>?_) (Ev.one (Ev.now _) (by simp [tailBytes]))
  simp only [spec_Padded.l1]
  rw [if_neg (by omega)]
 | succ j ih =>
  intro acc h1 h2
  refine Ev.step (fun k=>?_) (Ev.one (ih (acc ++ [(shr .i64 n (8 * (j:Int))) % 256]) (by omega) (by simp;omega)) (by simp [tailBytes]))
  simp only [spec_Padded.l1]
  rw [show 8 * (((j+1:Nat):Int)) - 8=8 * (j:Int) from by omega,IntWalk.u64_in _ ⟨by omega,by omega⟩,if_pos (by omega),if_pos (by omega),if_pos (by omega),w64 (by omega) (by omega)]
theorem spadded_l0 (l:List Int) (hl:l.length≤1099511627776):∀ (d i:Nat) (acc:List Int),i+d=zerosOf l.length->acc=l ++ [128] ++ List.replicate i 0->Ev (fun k=>spec_Padded.l0 k l acc) (padL l):=by
 intro d
 induction d with
 | zero =>
  intro i acc hi ha
  have hlen:acc.length=l.length+1+i:=by rw [ha];simp;omega
  have hz:zerosOf l.length=(119 - l.length % 64) % 64:=rfl
  refine Ev.step (fun k=>?_) (Ev.one (spadded_l1 (8 * (l.length:Int)) 8 acc (by omega) (by omega)) ?_)
  ·simp only [spec_Padded.l0]
   rw [if_pos (by omega),w64 (by omega) (by omega),Int.mul_comm]
   rfl
  ·rw [ha,show i=zerosOf l.length from by omega]
   rfl
 | succ d ih =>
  intro i acc hi ha
  have hlen:acc.length=l.length+1+i:=by rw [ha];simp;omega
  have hz:zerosOf l.length=(119 - l.length % 64) % 64:=rfl
  refine Ev.step (fun k=>?_) (ih (i+1) (acc ++ [0]) (by omega) (by rw [ha,List.append_assoc (l ++ [128])];congr 1;rw [List.replicate_succ']))
  simp only [spec_Padded.l0]
  rw [if_neg (by omega),if_pos (by omega)]
theorem spec_Padded_ev (l:List Int) (hl:l.length≤1099511627776):Ev (fun k=>spec_Padded.f k l) (padL l):=by
 refine Ev.congr (fun k=>?_) (spadded_l0 l hl (zerosOf l.length) 0 (l ++ [128]) (by omega) (by simp))
 unfold spec_Padded.f
 simp only [Option.bind_some,List.length_nil,List.nil_append]
 rw [if_pos (by omega),if_pos (by omega)]
theorem outBytes_succ (hs:List Int) (i:Nat) (h:i < hs.length):outBytes hs (i+1)=outBytes hs i ++ wordBytes (hs.getD i 0):=by
 unfold outBytes
 have hx:hs[i]?=some (hs.getD i 0):=by simp [List.getD_eq_getElem?_getD,h]
 rw [take_one hx,List.flatMap_append]
 simp
theorem wordBytes_length (x:Int):(wordBytes x).length=4:=rfl
theorem outBytes_length (hs:List Int) (i:Nat) (h:i≤hs.length):(outBytes hs i).length=4 * i:=by
 induction i with
 | zero=>simp [outBytes]
 | succ i ih =>
  rw [outBytes_succ hs i h,List.length_append,ih (by omega),wordBytes_length]
  omega
theorem sdigest_l1 (hs:List Int) (hh:hs.length=8):∀ (d i:Nat),i+d=8->Ev (fun k=>spec_Digest.l1 k hs (outBytes hs i) (i:Int)) (strOfNums (outBytes hs 8)):=by
 intro d
 induction d with
 | zero =>
  intro i hi
  obtain rfl:i=8:=by omega
  refine Ev.step (f:=fun _=>some (strOfNums (outBytes hs 8))) (fun k=>?_) (Ev.now _)
  simp only [spec_Digest.l1]
  rw [if_neg (by omega)]
 | succ d ih =>
  intro i hi
  have hr:rd hs (i:Int)=hs.getD i 0:=by unfold rd;rw [Int.toNat_natCast]
  have ho:=outBytes_length hs i (by omega)
  refine Ev.step (fun k=>?_) (ih (i+1) (by omega))
  simp only [spec_Digest.l1,Option.bind_some,List.length_cons,List.length_nil]
  rw [if_pos (by omega),if_pos (by omega),if_pos (by omega),if_pos (by omega),hr,w64 (by omega) (by omega),outBytes_succ hs i (by omega)]
  rfl
theorem blockAt_mem {p:List Int} {x:Nat} {y:Int} (h:y ∈ blockAt p x):y ∈ p:=List.mem_of_mem_drop (List.mem_of_mem_take h)
theorem sdigest_l0 (p:List Int) (hp:p.length % 64=0) (hl:p.length≤2199023255552) (hb:∀ x ∈ p,0≤x∧x≤255):∀ (d i:Nat),i+d=p.length / 64->Ev (fun k=>spec_Digest.l0 k p (foldAt p (starts i)) shaK (64 * (i:Int))) (strOfNums (outBytes (foldAt p (starts (p.length / 64))) 8)):=by
 intro d
 induction d with
 | zero =>
  intro i hi
  obtain rfl:i=p.length / 64:=by omega
  refine Ev.step (fun k=>?_) (sdigest_l1 _ (foldAt_length _ _) 8 0 rfl)
  simp only [spec_Digest.l0]
  rw [if_neg (by omega)]
  rfl
 | succ d ih =>
  intro i hi
  have hbl:(blockAt p (64 * i)).length=64:=by simp [blockAt];omega
  have hbe:(p.take (64 * (i:Int) + 64).toNat).drop (64 * (i:Int)).toNat=blockAt p (64 * i):=by
   rw [show (64 * (i:Int) + 64).toNat=64 * i+64 from by omega,show (64 * (i:Int)).toNat=64 * i from by omega,List.drop_take]
   unfold blockAt
   congr 1
   omega
  have hB:=block_ev (foldAt p (starts i)) (blockAt p (64 * i)) shaK rfl hbl (foldAt_length _ _) (fun x hx=>hb x (blockAt_mem hx)) shaK_U (foldAt_U p i)
  have hI:=ih (i+1) (by omega)
  rw [starts_succ,foldAt_snoc] at hI
  refine Ev.step (fun k=>?_) (Ev.bind (f:=fun k t=>spec_Digest.l0 k p t shaK (64 * ((i+1:Nat):Int))) hB hI)
  simp only [spec_Digest.l0]
  rw [w64 (x:=64 * (i:Int) + 64) (by omega) (by omega),if_pos (by omega),if_pos (by omega),if_pos (by omega),if_pos (by omega),hbe]
  rfl
theorem spec_Digest_ev (l:List Int) (hl:l.length≤1099511627776) (hb:∀ x ∈ l,0≤x∧x≤255):Ev (fun k=>spec_Digest.f k l) (sha l):=by
 unfold spec_Digest.f
 refine Ev.bind (spec_Padded_ev l hl) ?_
 have hs:=padL_size l
 refine Ev.congr (fun k=>?_) (sdigest_l0 (padL l) (padL_length l) (by omega) (padL_bytes l hb) ((padL l).length / 64) 0 (by omega))
 unfold spec_l2K.f
 rfl
theorem impl_Digest_is (l:List Int) (hl:l.length≤1099511627776):impl_Digest.f l=some (sha l):=if_pos hl
theorem sha_size (l:List Int):(sha l).size=32:=by
 unfold sha shaBytes
 have:=outBytes_length (foldAt (padL l) (starts ((padL l).length / 64))) 8 (by rw [foldAt_length];exact Nat.le_refl _)
 show ((outBytes (foldAt (padL l) (starts ((padL l).length / 64))) 8).map fun n=>UInt8.ofNat n.toNat).toArray.size=32
 simp [this]
end Go.Proofs.YtnlndmoecljicaaGreat.Q
end
section
namespace Go.Proofs.YtnlndmoecljicaaGreat.Q
open Go.Proofs.YtnlndmoecljicaaGreatW.PrintLast Go.Proofs.YtnlndmoecljicaaGreatW.PrintMore Go.Proofs.YtnlndmoecljicaaGreatW.PrintWords Go.RowKit
attribute [local go_sem] max2_int min2_int max_two min_two max_three min_three max_four min_four
set_option maxHeartbeats 8000000
set_option maxRecDepth 100000
def impl_NodeHash.f (a0:ByteArray) (a1:ByteArray):Option (ByteArray):=(some (([1]:List Int):List Int)).bind fun y601=>(if y601.length+a0.size < 140737488355328 then ((some (y601 ++ bytesOf a0:List Int)).bind fun y604=>(if y604.length+a1.size < 140737488355328 then ((impl_Digest.f (y604 ++ bytesOf a1)).bind fun t10=>(some t10)) else (none))) else (none))
theorem impl_NodeHash.calls (a0:ByteArray) (a1:ByteArray) (r:ByteArray) (w:World) (h:impl_NodeHash.f a0 a1=some r) :
  Calls Tryz.prog 136 #[.string a0,.string a1] w fun e w'=>e = .returned (.string r)∧Below w.heap.size w w':=by
 have HB:=h0_ w
 have H:((some (([1]:List Int):List Int)).bind fun y601=>(if y601.length+a0.size < 140737488355328 then ((some (y601 ++ bytesOf a0:List Int)).bind fun y604=>(if y604.length+a1.size < 140737488355328 then ((impl_Digest.f (y604 ++ bytesOf a1)).bind fun t10=>(some t10)) else (none))) else (none)))=some r:=h
 clear h
 obtain ⟨y601,Ny1,H⟩:=sb_ (([1]:List Int)) H
 replace H:=ip_ H;obtain ⟨c3,H⟩:=H
 have LMc3:=am_ c3
 clear c3
 obtain ⟨y604,Ny4,H⟩:=sb_ (y601 ++ bytesOf a0) H
 replace H:=ip_ H;obtain ⟨c4,H⟩:=H
 have LMc4:=am_ c4
 clear c4
 obtain ⟨y607,hy7⟩:∃ y_:List Int,y_=(y604 ++ bytesOf a1):=⟨_,rfl⟩
 replace H:((impl_Digest.f y607).bind fun t10=>(some t10))=some r:=yh_ hy7 H
 have Ny7:=am_ hy7
 clear hy7
 replace H:=bi_ H;obtain ⟨t10,A5,H⟩:=H
 obtain rfl:=Option.some.inj H
 go_enter Tryz.func136,Tryz.ntmps136
 go_wp2_with (first|((with_reducible refine gd_ 5 ?_);refine rl_ (Kd.int .u8) 5 5 ([1]:List Int) [.int .u8 1] ?_;intro v2 w6 ho7 hb hg_ hnew_;clear hg_ hnew_;(first|rw [← Ny1.out] at ho7|(simp only [Int.reduceToNat] at ho7;rw [← Ny1.out] at ho7));have HO3:=rlo_ ho7 HB;replace HB:=ss_ HB hb;clear hb ho7)|(at_builtin;refine print_append_str (w0:=w) w.heap.size rfl (.tmp 5) _ 27 9 5 rfl Tryz.underlying27 Tryz.underlying9 info5 v2 y601 a0 rfl rfl ?aO ?aB ?aS ?aL ?_;(case aB=>exact (bw_ HB));(case aO=>exact (Kd.own_of_R (kr_ HO3.out)));(case aS=>exact (sz_ HB));(case aL=>have:=LMc3.out;omega);intro v5 w8 ho0 hb hg;have ho:=Kd.R_of_own (h1:=fun _=>rfl) (ok:=fun _=>True) ho0 (fun _ _=>trivial);clear ho0;have hat:=True.intro;rw [← Ny4.out] at ho;change Kd.R (Kd.int .u8) 5 w8 w.heap.size (fun _=>True) v5 y604 at ho;replace HB:=am_ hb;have HO6:=am_ ho;clear HO3;clear ho hb hg hat)|(at_builtin;refine print_append_str (w0:=w) w.heap.size rfl (.tmp 7) _ 27 9 5 rfl Tryz.underlying27 Tryz.underlying9 info5 v5 y604 a1 rfl rfl ?aO ?aB ?aS ?aL ?_;(case aB=>exact (bw_ HB));(case aO=>exact (Kd.own_of_R (kr_ HO6.out)));(case aS=>exact (sz_ HB));(case aL=>have:=LMc4.out;omega);intro v8 w9 ho0 hb hg;have ho:=Kd.R_of_own (h1:=fun _=>rfl) (ok:=fun _=>True) ho0 (fun _ _=>trivial);clear ho0;have hat:=True.intro;rw [← Ny7.out] at ho;change Kd.R (Kd.int .u8) 5 w9 w.heap.size (fun _=>True) v8 y607 at ho;replace HB:=am_ hb;have HO9:=am_ ho;clear HO6;clear ho hb hg hat;obtain ⟨Ao10,co10,eo10⟩:=Kd.R_slice HO9.out;subst eo10)|((with_reducible refine gq_ 133 10 ?_);refine gc_ 10 Tryz.func133 (impl_Digest.calls _ _ y607 t10 _ (ch_ HO9) (cl_ HO9) A5.out) ?_;rintro e w11 ⟨rfl,hb⟩;refine ⟨_,rfl,?_⟩;replace HO9:=rb_ HO9 hb;replace HB:=ss_ HB hb;clear hb))
 go_ret
 exact ⟨e2_,bw_ HB⟩
def impl_LeafHash.f (a0:ByteArray):Option (ByteArray):=(some (([0]:List Int):List Int)).bind fun y601=>(if y601.length+a0.size < 140737488355328 then ((impl_Digest.f (y601 ++ bytesOf a0)).bind fun t7=>(some t7)) else (none))
theorem impl_LeafHash.calls (a0:ByteArray) (r:ByteArray) (w:World) (h:impl_LeafHash.f a0=some r) :
  Calls Tryz.prog 134 #[.string a0] w fun e w'=>e = .returned (.string r)∧Below w.heap.size w w':=by
 have HB:=h0_ w
 have H:((some (([0]:List Int):List Int)).bind fun y601=>(if y601.length+a0.size < 140737488355328 then ((impl_Digest.f (y601 ++ bytesOf a0)).bind fun t7=>(some t7)) else (none)))=some r:=h
 clear h
 obtain ⟨y601,Ny1,H⟩:=sb_ (([0]:List Int)) H
 replace H:=ip_ H;obtain ⟨c2,H⟩:=H
 have LMc2:=am_ c2
 clear c2
 obtain ⟨y604,hy4⟩:∃ y_:List Int,y_=(y601 ++ bytesOf a0):=⟨_,rfl⟩
 replace H:((impl_Digest.f y604).bind fun t7=>(some t7))=some r:=yh_ hy4 H
 have Ny4:=am_ hy4
 clear hy4
 replace H:=bi_ H;obtain ⟨t7,A3,H⟩:=H
 obtain rfl:=Option.some.inj H
 go_enter Tryz.func134,Tryz.ntmps134
 go_wp2_with (first|((with_reducible refine gd_ 3 ?_);refine rl_ (Kd.int .u8) 5 3 ([0]:List Int) [.int .u8 0] ?_;intro v2 w4 ho5 hb hg_ hnew_;clear hg_ hnew_;(first|rw [← Ny1.out] at ho5|(simp only [Int.reduceToNat] at ho5;rw [← Ny1.out] at ho5));have HO3:=rlo_ ho5 HB;replace HB:=ss_ HB hb;clear hb ho5)|(at_builtin;refine print_append_str (w0:=w) w.heap.size rfl (.tmp 3) _ 27 9 5 rfl Tryz.underlying27 Tryz.underlying9 info5 v2 y601 a0 rfl rfl ?aO ?aB ?aS ?aL ?_;(case aB=>exact (bw_ HB));(case aO=>exact (Kd.own_of_R (kr_ HO3.out)));(case aS=>exact (sz_ HB));(case aL=>have:=LMc2.out;omega);intro v5 w6 ho0 hb hg;have ho:=Kd.R_of_own (h1:=fun _=>rfl) (ok:=fun _=>True) ho0 (fun _ _=>trivial);clear ho0;have hat:=True.intro;rw [← Ny4.out] at ho;change Kd.R (Kd.int .u8) 5 w6 w.heap.size (fun _=>True) v5 y604 at ho;replace HB:=am_ hb;have HO6:=am_ ho;clear HO3;clear ho hb hg hat;obtain ⟨Ao7,co7,eo7⟩:=Kd.R_slice HO6.out;subst eo7)|((with_reducible refine gq_ 133 6 ?_);refine gc_ 6 Tryz.func133 (impl_Digest.calls _ _ y604 t7 _ (ch_ HO6) (cl_ HO6) A3.out) ?_;rintro e w8 ⟨rfl,hb⟩;refine ⟨_,rfl,?_⟩;replace HO6:=rb_ HO6 hb;replace HB:=ss_ HB hb;clear hb))
 go_ret
 exact ⟨e2_,bw_ HB⟩
def impl_putCommit.f (k:Nat) (a0_0:Int) (a0_1:ByteArray) (l1:List ByteArray):Option (List Int):=(impl_putNum.f k ([]:List Int) a0_0).bind fun t602=>((impl_putText.f k t602 a0_1).bind fun t5=>((impl_putTexts.f k t5 l1).bind fun t8=>((impl_putNum.f k ([]:List Int) (t8.length:Int)).bind fun t11=>(if t11.length+t8.length < 140737488355328 then ((some (t11 ++ t8:List Int)).bind fun y14=>((impl_Digest.f t8).bind fun t17=>(if 0≤4 then (if 4≤(t17.size:Int) then (if y14.length+(t17.extract 0 4).size < 140737488355328 then (some (y14 ++ bytesOf (t17.extract 0 4))) else (none)) else (none)) else (none)))) else (none)))))
def impl_putCommit.T1:Bool × List (List Nat × List Nat):=(true,[([],[]),([0],[0]),([1],[1]),([],[]),([3],[3]),([2,4,2],[2,4]),([],[]),([5,6,5],[5,6]),([7,7,0,1,2,3,4,5,6,7],[7])])
def impl_putCommit.B1:List Nat:=[0,1,3,0,8,31,0,127,255]
theorem impl_putCommit.tab1:rtab .any (opsOf Tryz.f132 1)=impl_putCommit.T1:=by kernel_rfl
theorem impl_putCommit.bits1:waitsOk impl_putCommit.T1.2 impl_putCommit.B1=true:=by kernel_rfl
theorem impl_putCommit.calls (k:Nat) (a0_0:Int) (a0_1:ByteArray) (A1:Option Addr) (c1:Nat) (l1:List ByteArray) (r:List Int) (w:World) (hr1:Kd.C Kd.string w A1 l1.length l1) (hc1:l1.length≤c1) (h:impl_putCommit.f k a0_0 a0_1 l1=some r) :
  Calls Tryz.prog 132 #[.agg #[.int .i64 a0_0,.string a0_1],.slice A1 l1.length c1] w fun e w'=>∃ v0_:Value,e = .returned (v0_)∧Kd.R (Kd.int .u8) 5 w' w.heap.size (fun _=>True) v0_ r∧Below w.heap.size w w':=by
 have hu37:=Tryz.underlying37
 have HR1:=am_ hr1
 have HC1:=am_ hc1
 clear hr1 hc1
 have HB:=h0_ w
 have H:((impl_putNum.f k ([]:List Int) a0_0).bind fun t602=>((impl_putText.f k t602 a0_1).bind fun t5=>((impl_putTexts.f k t5 l1).bind fun t8=>((impl_putNum.f k ([]:List Int) (t8.length:Int)).bind fun t11=>(if t11.length+t8.length < 140737488355328 then ((some (t11 ++ t8:List Int)).bind fun y14=>((impl_Digest.f t8).bind fun t17=>(if 0≤4 then (if 4≤(t17.size:Int) then (if y14.length+(t17.extract 0 4).size < 140737488355328 then (some (y14 ++ bytesOf (t17.extract 0 4))) else (none)) else (none)) else (none)))) else (none))))))=some r:=h
 clear h
 replace H:=bi_ H;obtain ⟨t602,A3,H⟩:=H
 replace H:=bi_ H;obtain ⟨t5,A4,H⟩:=H
 replace H:=bi_ H;obtain ⟨t8,A5,H⟩:=H
 replace H:=bi_ H;obtain ⟨t11,A6,H⟩:=H
 replace H:=ip_ H;obtain ⟨c7,H⟩:=H
 have LMc7:=am_ c7
 clear c7
 obtain ⟨y14,Ny14,H⟩:=sb_ (t11 ++ t8) H
 replace H:=bi_ H;obtain ⟨t17,A8,H⟩:=H
 replace H:=ip_ H;obtain ⟨c9,H⟩:=H
 have c9b0:=eq_true c9
 have c9b1:=decide_eq_true c9
 clear c9
 replace H:=ip_ H;obtain ⟨c10,H⟩:=H
 have c10b0:=eq_true c10
 have c10b1:=decide_eq_true c10
 clear c10
 replace H:=ip_ H;obtain ⟨c11,H⟩:=H
 have LMc11:=am_ c11
 clear c11
 obtain ⟨y18,hy18⟩:∃ y_:List Int,y_=(y14 ++ bytesOf (t17.extract 0 4)):=⟨_,rfl⟩
 replace H:(some y18)=some r:=yh_ hy18 H
 have Ny18:=am_ hy18
 clear hy18
 obtain rfl:=Option.some.inj H
 go_enter Tryz.func132,Tryz.ntmps132
 try go_wp2_with (first|((with_reducible refine gd_ 2 ?_);refine bx_ 2 37 #[.int .i64 a0_0,.string a0_1] (hx_ HB ?_);clear HB;intro gb1 w12 BK1 GW1 HB;have GE1:=GW1))
 replace BK1:=bd_ BK1
 replace HB:=hd_ HB
 refine sw_ 9 (fun w'=>w'.cell? ⟨gb1,0,none⟩=some (.int .i64 a0_0)∧w'.cell? ⟨gb1,1,none⟩=some (.string a0_1)) [] impl_putCommit.tab1 impl_putCommit.bits1 ⟨bc0_ BK1.out,bc1_ BK1.out⟩ (fun hHeld HT_ HW_=>?_)
 generalize w12.drew=w13 at BK1 HB hHeld ⊢
 refine pt_ 0 7 1 ?_
 refine pt_ 3 10 9 ?_
 refine pt_ 6 13 73 ?_
 refine tt_ 1 8 75 ?_
 refine tt_ 4 11 91 ?_
 refine oz_ 2 9 9 95 (fun K hK=>?_)
 refine ge_ Tryz.func155 #[.slice none 0 0,.int .i64 a0_0] ?_
 refine (impl_putNum.calls k (fun k_=>some k_=(.slice none 0 0:Value).ownBlock) (.slice none 0 0) ([]:List Int) a0_0 t602 w _ ?side1 ?side2 A3.out).mono ?_
 (case side1=>exact bw_ HB)
 (case side2=>exact Kd.R_nil _ _ _ _ _)
 rintro e w14 ⟨v3,rfl,ho0,hb,hkp⟩
 refine ⟨_,rfl,?_⟩
 replace BK1:=am_ (blk_kept (kb_ BK1.out) hkp (fun hs_=>(fun e_=>by simp [Value.ownBlock] at e_) hs_))
 have HO4:=am_ (Kd.R_mono (ok':=fun k_=>True) ho0 (fun k_ hk_=>trivial))
 replace HB:=am_ hb
 clear hb hkp ho0
 obtain ⟨Ao15,co15,eo15⟩:=Kd.R_slice HO4.out
 subst eo15
 refine hK.out _ _ ⟨bc0_ BK1.out,bc1_ BK1.out⟩ (fun hHeld=>?_)
 clear hK K
 refine no_ 9 ?_
 refine oz_ 5 12 9 127 (fun K hK=>?_)
 refine gf_ Tryz.func154 (impl_putText.calls k (fun k_=>some k_=(.slice Ao15 t602.length co15:Value).ownBlock) (.slice Ao15 t602.length co15) t602 a0_1 t5 w _ (bw_ HB) (Kd.R_tight rfl HO4.out) A4.out) ?_
 rintro e w16 ⟨v6,rfl,ho0,hb,hkp⟩
 refine ⟨_,rfl,?_⟩
 replace BK1:=am_ (blk_kept (kb_ BK1.out) hkp (fun hs_=>(fun e_=>(Kd.R_ne HO4.out BK1.out (by decide)) e_) hs_))
 have HO7:=am_ (Kd.R_mono (ok':=fun k_=>True) ho0 (fun k_ hk_=>trivial))
 replace HB:=am_ hb
 clear HO4
 clear hb hkp ho0
 obtain ⟨Ao17,co17,eo17⟩:=Kd.R_slice HO7.out
 subst eo17
 refine hK.out _ _ ⟨bc0_ BK1.out,bc1_ BK1.out⟩ (fun hHeld=>?_)
 clear hK K
 refine no_ 12 ?_
 refine oz_ 7 14 9 255 (fun K hK=>?_)
 refine gf_ Tryz.func153 (impl_putTexts.calls k (fun k_=>some k_=(.slice Ao17 t5.length co17:Value).ownBlock) (.slice Ao17 t5.length co17) t5 _ _ l1 t8 w _ (bw_ HB) (Kd.R_tight rfl HO7.out) (Kd.C_kept_came Kd.heap_string HR1.out (bw_ HB) (fun k_ hs_=>(fun e_=>Kd.R_base HO7.out k_ e_.symm) hs_)) HC1.out A5.out) ?_
 rintro e w18 ⟨v9,rfl,ho0,hb,hkp⟩
 refine ⟨_,rfl,?_⟩
 replace BK1:=am_ (blk_kept (kb_ BK1.out) hkp (fun hs_=>(fun e_=>(Kd.R_ne HO7.out BK1.out (by decide)) e_) hs_))
 have HO10:=am_ (Kd.R_mono (ok':=fun k_=>True) ho0 (fun k_ hk_=>trivial))
 replace HB:=am_ hb
 clear HO7
 clear hb hkp ho0
 refine hK.out _ _ ⟨bc0_ BK1.out,bc1_ BK1.out⟩ (fun hHeld=>?_)
 clear hK K
 refine no_ 14 ?_
 refine pt_ 8 5 511 ?_
 refine dn_ ?_
 obtain ⟨Ao19,co19,eo19⟩:=Kd.R_slice HO10.out
 subst eo19
 try go_wp2_with (first|((with_reducible refine gk_ 155 ?_);refine gl_ 17 Tryz.func155 #[.slice none 0 0,.int .i64 (t8.length:Int)] ?_;(refine (impl_putNum.calls k (fun k_=>some k_=(.slice none 0 0:Value).ownBlock) (.slice none 0 0) ([]:List Int) (t8.length:Int) t11 w _ ?side1 ?side2 A6.out).mono ?_);(case side1=>exact bw_ HB);(case side2=>exact Kd.R_nil _ _ _ _ _);rintro e w20 ⟨v12,rfl,ho0,hb,hkp⟩;refine ⟨_,rfl,?_⟩;have HO13:=am_ (Kd.R_mono (ok':=fun k_=>some k_ ≠ (.slice Ao19 t8.length co19:Value).ownBlock) ho0 (fun k_ hk_=>Or.elim hk_ (fun hs_=>absurd hs_ (by simp [Value.ownBlock])) (fun hn_=>(Kd.fresh' (lt_ HO10) k_ hn_))));replace HO10:=am_ (Kd.R_mono (ok':=fun k_=>some k_ ≠ (v12:Value).ownBlock) (Kd.R_keptB (HO10.out) hkp (fun k_ hk_ hs_=>(fun e_=>by simp [Value.ownBlock] at e_) hs_)) (fun k_ hk_=>fun e_=>Or.elim (ho0.1 k_ e_.symm) (fun hs_=>hk_.2.1 hs_) (fun hn_=>Nat.not_le.2 hk_.2.2 hn_)));replace HB:=am_ hb;clear hb hkp ho0)|((with_reducible refine gate_builtin (b:=.append) (xs:=#[.tmp 17,.tmp 18]) rfl ?_);at_builtin;refine Kd.R_append_rows (Kd.int .u8) (w0:=w) w.heap.size rfl (.tmp 17) (.tmp 18) 27 5 (.int .u8 0) 1 rfl Tryz.underlying27 info5 rfl (by decide) (by omega) v12 t11 t8 _ _ _ (fun k_=>some k_ ≠ (.slice Ao19 t8.length co19:Value).ownBlock) (fun _=>False) rfl rfl ?aO ?aR (fun _ _ h=>h) (fun _ h=>h.elim) ?aF ?aB ?aS ?aL ?_;(case aR=>repeat (first|exact (Kd.R_reads' HO10.out).2.2|(with_reducible refine Kd.C_alloc ?_ _)|(with_reducible refine Kd.C_drewN ?_ _)|(with_reducible refine Kd.C_drew ?_)));(case aB=>exact (bw_ HB));(case aF=>exact (fun k_ hk=>Kd.fresh' (lt_ HO10) k_ hk));(case aO=>exact (kr_ HO13.out));(case aS=>exact (sz_ HB));(case aL=>have:=LMc7.out;omega);intro v15 w21 ho hb hg hat;rw [← Ny14.out] at ho;replace HO10:=am_ (Kd.R_after (ok:=(fun _=>True)) (kr_ (Kd.R_mono HO10.out (fun _ hk=>⟨trivial,hk⟩))) hg hat);replace HB:=am_ hb;have HO16:=am_ ho;clear HO13;clear ho hb hg hat)|((with_reducible refine gq_ 133 22 ?_);refine gc_ 22 Tryz.func133 (impl_Digest.calls _ _ t8 t17 _ (ch_ HO10) (cl_ HO10) A8.out) ?_;rintro e w22 ⟨rfl,hb⟩;refine ⟨_,rfl,?_⟩;replace HO10:=rb_ HO10 hb;replace HO16:=rb_ HO16 hb;replace HB:=ss_ HB hb;clear hb)|(at_builtin;refine print_append_strR (w0:=w) w.heap.size rfl (.tmp 20) _ 27 9 5 rfl Tryz.underlying27 Tryz.underlying9 info5 v15 y14 (t17.extract 0 4) (fun k_=>some k_ ≠ (.slice Ao19 t8.length co19:Value).ownBlock) rfl rfl ?aF ?aO ?aB ?aS ?aL ?_;(case aB=>exact (bw_ HB));(case aF=>exact (fun k_ hk=>Kd.fresh' (lt_ HO10) k_ hk));(case aO=>exact (kr_ HO16.out));(case aS=>exact (sz_ HB));(case aL=>have:=LMc11.out;omega);intro v19 w23 ho hb hg hat;rw [← Ny18.out] at ho;replace HO10:=am_ (Kd.R_after (ok:=(fun _=>True)) (kr_ HO10.out) hg hat);replace HB:=am_ hb;have HO20:=am_ ho;clear HO16;clear ho hb hg hat))
 go_ret
 exact ⟨_,e2_,km_ HO20,bw_ HB⟩
def impl_PutCommit.f (k:Nat) (a0_0:Int) (a0_1:ByteArray) (l1:List ByteArray):Option (List Int):=(impl_HeadOk.f a0_0 a0_1).bind fun t602=>(if t602=true then ((impl_inRange.f (l1.length:Int) 1 200).bind fun t3=>(if t3=true then ((impl_putCommit.f k a0_0 a0_1 l1).bind fun t4=>(some t4)) else (some ([]:List Int)))) else (some ([]:List Int)))
theorem impl_PutCommit.calls (k:Nat) (a0_0:Int) (a0_1:ByteArray) (A1:Option Addr) (c1:Nat) (l1:List ByteArray) (r:List Int) (w:World) (hr1:Kd.C Kd.string w A1 l1.length l1) (hc1:l1.length≤c1) (h:impl_PutCommit.f k a0_0 a0_1 l1=some r) :
  Calls Tryz.prog 102 #[.agg #[.int .i64 a0_0,.string a0_1],.slice A1 l1.length c1] w fun e w'=>∃ v0_:Value,e = .returned (v0_)∧Kd.R (Kd.int .u8) 5 w' w.heap.size (fun _=>True) v0_ r∧Below w.heap.size w w':=by
 have hu37:=Tryz.underlying37
 have HR1:=am_ hr1
 have HC1:=am_ hc1
 clear hr1 hc1
 have HB:=h0_ w
 have H:((impl_HeadOk.f a0_0 a0_1).bind fun t602=>(if t602=true then ((impl_inRange.f (l1.length:Int) 1 200).bind fun t3=>(if t3=true then ((impl_putCommit.f k a0_0 a0_1 l1).bind fun t4=>(some t4)) else (some ([]:List Int)))) else (some ([]:List Int))))=some r:=h
 clear h
 replace H:=bi_ H;obtain ⟨t602,A3,H⟩:=H
 replace H:=itb_ H;obtain ⟨rfl,H⟩|⟨rfl,H⟩:=H
 ·replace H:=bi_ H;obtain ⟨t3,A5,H⟩:=H
  replace H:=itb_ H;obtain ⟨rfl,H⟩|⟨rfl,H⟩:=H
  ·replace H:=bi_ H;obtain ⟨t4,A7,H⟩:=H
   obtain rfl:=Option.some.inj H
   go_enter Tryz.func102,Tryz.ntmps102
   go_wp2_with (first|((with_reducible refine gd_ 2 ?_);(try (refine gate_guard (by rfl) ?_;dsimp only));refine bx_ 2 37 #[.int .i64 a0_0,.string a0_1] (hx_ HB ?_);clear HB;intro gb1 w8 BK1 GW1 HB;have GE1:=GW1;have hz9:=cz2_ BK1)|((with_reducible refine gq_ 60 6 ?_);refine gc_ 6 Tryz.func60 (impl_HeadOk.calls a0_0 a0_1 true _ A3.out) ?_;rintro e w10 ⟨rfl,hb⟩;refine ⟨_,rfl,?_⟩;replace BK1:=kl_ BK1 hb;replace HB:=ss_ HB hb;clear hb)|(go_at_call 63;(with_reducible refine (impl_inRange.calls (l1.length:Int) 1 200 true _ A5.out).mono ?_);rintro e w' ⟨rfl,⟨nd,rfl⟩⟩;have hz11:=cz2_ BK1)|((with_reducible refine gq_ 132 16 ?_);refine gc_ 16 Tryz.func132 (impl_putCommit.calls k a0_0 a0_1 _ _ l1 t4 _ (cr_ (Kd.C_below HR1.out (bw_ HB))) HC1.out A7.out) ?_;rintro e w12 ⟨v5,rfl,ho0,hb⟩;refine ⟨_,rfl,?_⟩;have HO6:=rlo_ ho0 HB;replace BK1:=kl_ BK1 hb;replace HB:=ss_ HB hb;clear hb ho0))
   go_ret
   exact ⟨_,e2_,kr_ HO6.out,bw_ HB⟩
  ·obtain rfl:=Option.some.inj H
   go_enter Tryz.func102,Tryz.ntmps102
   go_wp2_with (first|((with_reducible refine gd_ 2 ?_);(try (refine gate_guard (by rfl) ?_;dsimp only));refine bx_ 2 37 #[.int .i64 a0_0,.string a0_1] (hx_ HB ?_);clear HB;intro gb1 w13 BK1 GW1 HB;have GE1:=GW1;have hz14:=cz2_ BK1)|((with_reducible refine gq_ 60 6 ?_);refine gc_ 6 Tryz.func60 (impl_HeadOk.calls a0_0 a0_1 true _ A3.out) ?_;rintro e w15 ⟨rfl,hb⟩;refine ⟨_,rfl,?_⟩;replace BK1:=kl_ BK1 hb;replace HB:=ss_ HB hb;clear hb)|(go_at_call 63;(with_reducible refine (impl_inRange.calls (l1.length:Int) 1 200 false _ A5.out).mono ?_);rintro e w' ⟨rfl,⟨nd,rfl⟩⟩))
   go_ret
   exact ⟨_,e2_,nil_,bw_ HB⟩
 ·obtain rfl:=Option.some.inj H
  go_enter Tryz.func102,Tryz.ntmps102
  go_wp2_with (first|((with_reducible refine gd_ 2 ?_);(try (refine gate_guard (by rfl) ?_;dsimp only));refine bx_ 2 37 #[.int .i64 a0_0,.string a0_1] (hx_ HB ?_);clear HB;intro gb1 w16 BK1 GW1 HB;have GE1:=GW1;have hz17:=cz2_ BK1)|((with_reducible refine gq_ 60 6 ?_);refine gc_ 6 Tryz.func60 (impl_HeadOk.calls a0_0 a0_1 false _ A3.out) ?_;rintro e w18 ⟨rfl,hb⟩;refine ⟨_,rfl,?_⟩;replace BK1:=kl_ BK1 hb;replace HB:=ss_ HB hb;clear hb))
  go_ret
  exact ⟨_,e2_,nil_,bw_ HB⟩
def impl_GetCommit.j0:Nat->List Int->Int->Int->Int->Bool->Option (Int × ByteArray × List ByteArray × Int × Bool)
 | 0,_,_,_,_,_=>none
 | k+1,x0,x1,x8,x9,x32=>if x32=true then (some (0,(⟨#[]⟩:ByteArray),([]:List ByteArray),x1,false)) else (if 0≤x9 then (if x9≤(wrap64 (x9+x8)) then (if (wrap64 (x9+x8))≤(x0.length:Int) then ((impl_getter_num.f k ((x0.take ((wrap64 (x9+x8)):Int).toNat).drop (x9:Int).toNat) 0 false).bind fun bt7=>((impl_getter_text.f k ((x0.take ((wrap64 (x9+x8)):Int).toNat).drop (x9:Int).toNat) bt7.2.1 bt7.2.2).bind fun bt11=>((impl_getter_texts.f k ((x0.take ((wrap64 (x9+x8)):Int).toNat).drop (x9:Int).toNat) bt11.2.1 bt11.2.2).bind fun bt14=>(if bt14.2.2=true then (some (0,(⟨#[]⟩:ByteArray),([]:List ByteArray),x1,false)) else ((impl_PutCommit.f k bt7.1 bt11.1 bt14.1).bind fun t19=>(if 0≤x1 then (if x1≤(wrap64 ((wrap64 (x9+x8)) + 4)) then (if (wrap64 ((wrap64 (x9+x8)) + 4))≤(x0.length:Int) then ((bytes_Equal.f t19 ((x0.take ((wrap64 ((wrap64 (x9+x8)) + 4)):Int).toNat).drop (x1:Int).toNat)).bind fun t23=>(if t23=true then (some (bt7.1,bt11.1,bt14.1,wrap64 ((wrap64 (x9+x8)) + 4),true)) else (some (0,(⟨#[]⟩:ByteArray),([]:List ByteArray),x1,false)))) else (none)) else (none)) else (none))))))) else (none)) else (none)) else (none))
def impl_GetCommit.f (k:Nat) (l0:List Int) (a1:Int):Option (Int × ByteArray × List ByteArray × Int × Bool):=(impl_GetNum.f k l0 a1).bind fun bt2=>(if bt2.2.2=true then (impl_GetCommit.j0 k l0 a1 bt2.1 bt2.2.1 (decide (bt2.1 > (wrap64 ((wrap64 ((l0.length:Int) - bt2.2.1)) - 4))))) else (impl_GetCommit.j0 k l0 a1 bt2.1 bt2.2.1 true))
def impl_GetCommit.T9:Bool × List (List Nat × List Nat):=(true,[([],[]),([0],[0]),([1],[1]),([2],[2]),([2],[2]),([3,4,2,2],[2,3,4]),([2],[2]),([2],[2]),([2],[2]),([6,7,8,2],[2,6,7,8]),([5,9,5,2],[2,5,9]),([10,2],[2,10]),([2,11],[2,11])])
def impl_GetCommit.B9:List Nat:=[0,1,3,7,7,31,7,7,7,455,1023,2047,4095]
theorem impl_GetCommit.tab9:rtab .any (opsOf Tryz.f64 9)=impl_GetCommit.T9:=by kernel_rfl
theorem impl_GetCommit.bits9:waitsOk impl_GetCommit.T9.2 impl_GetCommit.B9=true:=by kernel_rfl
theorem impl_GetCommit.calls (k:Nat) (A0:Option Addr) (c0:Nat) (l0:List Int) (a1:Int) (r1:Int) (r2:ByteArray) (r3:List ByteArray) (r4:Int) (r5:Bool) (w:World) (hr0:Kd.C (Kd.int .u8) w A0 l0.length l0) (hc0:l0.length≤c0) (h:impl_GetCommit.f k l0 a1=some (r1,r2,r3,r4,r5)) :
  Calls Tryz.prog 64 #[.slice A0 l0.length c0,.int .i64 a1] w fun e w'=>∃ v2_:Value,e = .returned (.tuple #[.agg #[.int .i64 r1,.string r2],v2_,.int .i64 r4,.bool r5])∧Kd.R Kd.string 9 w' w.heap.size (fun _=>True) v2_ r3∧Below w.heap.size w w':=by
 have hu37:=Tryz.underlying37
 have hu116:=Tryz.underlying116
 have HR0:=am_ hr0
 have HC0:=am_ hc0
 clear hr0 hc0
 have HB:=h0_ w
 have H:((impl_GetNum.f k l0 a1).bind fun bt2=>(if bt2.2.2=true then (impl_GetCommit.j0 k l0 a1 bt2.1 bt2.2.1 (decide (bt2.1 > (wrap64 ((wrap64 ((l0.length:Int) - bt2.2.1)) - 4))))) else (impl_GetCommit.j0 k l0 a1 bt2.1 bt2.2.1 true)))=some (r1,r2,r3,r4,r5):=h
 clear h
 replace H:=bi_ H;obtain ⟨⟨t602,t3,t4⟩,A3,H⟩:=H
 dsimp only at H
 have HC4:=am_ H
 clear H
 go_enter Tryz.func64,Tryz.ntmps64
 go_upto_region 2 with (first|((with_reducible refine gd_ 4 ?_);(try (refine gate_guard (by rfl) ?_;dsimp only));refine x37_ 4 (hx_ HB ?_);clear HB;intro gb1 w5 BK1 GW1 HB;have GE1:=GW1)|((with_reducible refine gq_ 97 18 ?_);refine gc_ 18 Tryz.func97 (impl_GetNum.calls k _ _ l0 a1 t602 t3 t4 _ (cb_ HR0 HB) HC0.out A3.out) ?_;rintro e w' ⟨rfl,⟨nd,rfl⟩⟩;refine ⟨_,rfl,?_⟩))
 (try simp only [Act.put,List.setIfInBounds_toArray,List.set_cons_zero,List.set_cons_succ])
 go_cut [32] (fun v32 wc=>∃ (kq:Nat) (x32_3:Bool),v32 = .bool x32_3∧Aside0 (impl_GetCommit.j0 kq l0 a1 t602 t3 x32_3=some (r1,r2,r3,r4,r5))∧Aside0 (kq≤k)∧Aside0 (wc.heap[gb1]?=some (.cells #[.int .i64 0,.string (⟨#[]⟩:ByteArray)] 37 (0,0)))∧Aside0 (Below w.heap.size w wc))
 case first =>
  have H:=HC4.out
  clear HC4
  replace H:=itb_ H;obtain ⟨rfl,H⟩|⟨rfl,H⟩:=H
  ·have H':=am_ H
   clear H
   go_wp2
   go_meet
   case rel => exact ⟨_,(decide (t602 > (wrap64 ((wrap64 ((l0.length:Int) - t3)) - 4)))),e1_,H',⟨le_⟩,⟨kb_ BK1.out⟩,⟨bw_ HB⟩⟩
  ·have H':=am_ H
   clear H
   go_wp2
   go_meet
   case rel => exact ⟨_,(true),e1_,H',⟨le_⟩,⟨kb_ BK1.out⟩,⟨bw_ HB⟩⟩
 case rest =>
  clear HC4
  obtain ⟨kq,x32_3,rfl,HA,HJ3,BK1,HB⟩:=hcut
  cases kq with
  | zero=>exact absurd HA.out (by simp [impl_GetCommit.j0])
  | succ kj3 =>
   have H:=HA.out
   clear HA
   simp only [impl_GetCommit.j0] at H
   replace H:=itb_ H;obtain ⟨rfl,H⟩|⟨rfl,H⟩:=H
   ·replace H:=so5_ H;obtain ⟨rfl,rfl,rfl,rfl,rfl⟩:=H
    have hz8:=cz2_ BK1
    go_wp2
    refine bodyPost_ret (results_list (rs:=[.cell 4 37,.tmp 5,.tmp 6,.tmp 7]) rfl (by simp) (.cell gb1 37 #[.int .i64 0,.string (⟨#[]⟩:ByteArray)] (0,0) _ rfl (by exact kq_ BK1) Tryz.underlying37 rfl (by kernel_rfl) (.tmp (.tmp (.tmp .nil))))) rfl ?_
    exact ⟨_,e2_,nil_,bw_ HB⟩
   ·replace H:=ip_ H;obtain ⟨c9,H⟩:=H
    have c9b0:=eq_true c9
    have c9b1:=decide_eq_true c9
    clear c9
    replace H:=ip_ H;obtain ⟨c10,H⟩:=H
    have c10b0:=eq_true c10
    have c10b1:=decide_eq_true c10
    replace H:=ip_ H;obtain ⟨c11,H⟩:=H
    have c11b0:=eq_true c11
    have c11b1:=decide_eq_true c11
    replace H:=bi_ H;obtain ⟨⟨t7,t8,t9⟩,A12,H⟩:=H
    dsimp only at H
    replace H:=bi_ H;obtain ⟨⟨t11,t12,t13⟩,A13,H⟩:=H
    dsimp only at H
    replace H:=bi_ H;obtain ⟨⟨t14,t17,t18⟩,A14,H⟩:=H
    dsimp only at H
    replace H:=itb_ H;obtain ⟨rfl,H⟩|⟨rfl,H⟩:=H
    ·replace H:=so5_ H;obtain ⟨rfl,rfl,rfl,rfl,rfl⟩:=H
     obtain ⟨i016,hi016,_,hsz16,_⟩:=info_parts info5
     obtain ⟨A16,hcut16,hA16,hC16⟩:=print_mid_of (P:=Tryz.prog) (Value.int .u8) 0 27 5 .i64 .i64 Tryz.underlying27 hi016 hsz16 A0 c0 l0 t3 (wrap64 (t3+t602)) (od_) (by first|omega|exact od_) (od_) HC0.out
     have HR5:=am_ (Kd.C_of_reads (h1:=fun _=>rfl) (hA16 _ (Kd.reads_of_C HR0.out)))
     have HC5:=am_ hC16
     clear hA16 hC16 hi016 hsz16
     try go_wp2_with (first|((with_reducible refine gd_ 12 ?_);(try (refine gate_guard (by rfl) ?_;dsimp only));refine x116_ 12 ?_;intro gb6 hg w17 hbox hb;have BK6:=am_ hbox;have GW6:=gg_ hg HB;have GE6:=GW6;replace HB:=ss_ HB hb;have NB1_6:=nla_ hg BK1;have NB6_1:=nga_ hg BK1;replace BK1:=kl_ BK1 hb;clear hb hbox hg;have hnb18:=NB6_1.out;have hnc18:=NB1_6.out;have hz19:=cz3_ BK6)|((with_reducible refine gk_ 98 ?_);refine gl_ 46 Tryz.func98 #[.pointer (some ⟨gb6,0,none⟩)] ?_;refine IsS116.called (w0:=w) (g:=gb6) (f0:=(l0.take ((wrap64 (t3+t602)):Int).toNat).drop (t3:Int).toNat) (f1:=0) (f2:=false) ⟨_,_,by (rw [show ((l0.take ((wrap64 (t3+t602)):Int).toNat).drop (t3:Int).toNat).length=((wrap64 (t3+t602)).toNat - t3.toNat) from (by rw [List.length_drop,List.length_take];have h_:((wrap64 (t3+t602)):Int)≤(l0.length:Int):=od_;omega)]);refine kb_ ?_;refine blk_put (cs:=#[.slice A16 ((wrap64 (t3+t602)).toNat - t3.toNat) (c0 - t3.toNat),.int .i64 0,.bool false]) ?_ 2 _ rfl;refine kb_ ?_;refine blk_put (cs:=#[.slice A16 ((wrap64 (t3+t602)).toNat - t3.toNat) (c0 - t3.toNat),.int .i64 0,.bool false]) ?_ 1 _ rfl;refine kb_ ?_;refine blk_put (cs:=#[.slice none 0 0,.int .i64 0,.bool false]) ?_ 0 _ rfl;refine kb_ ?_;exact BK6.out,GW6.out,HR5.out,HC5.out⟩ (fun HI6=>?_);(with_reducible refine (impl_getter_num.calls kj3 gb6 ((l0.take ((wrap64 (t3+t602)):Int).toNat).drop (t3:Int).toNat) 0 false t7 t8 t9 w _ ?side1 ?side2 A12.out).mono ?_);(case side1=>exact in116_ HI6);(case side2=>exact bi116_ HB);rintro e w20 ⟨rfl,hi,hb,hk⟩;refine ⟨_,rfl,?_⟩;replace BK1:=kbk_ hk (kq_ (o':=.cells #[.int .i64 0,.string (⟨#[]⟩:ByteArray)] 37 (0,0)) BK1) NB1_6;replace HB:=am_ hb;replace HI6:=am_ hi;clear hb hk hi)|((with_reducible refine gd_ 13 ?_);(try (refine gate_guard (by rfl) ?_;dsimp only));refine x37_ 13 ?_;intro gb10 hg w21 hbox hb;have BK10:=am_ hbox;have GW10:=am_ (gz_ hg (below_size (bs2_ HB (IsS116.ge HI6.out) GE1.out)));have GE10:=am_ (gz_ hg (below_size (bs2_ HB (IsS116.ge HI6.out) GE1.out)));replace HB:=am_ (below_step (bs2_ HB (IsS116.ge HI6.out) GE1.out) hb);have NB1_10:=nla_ hg BK1;have NB10_1:=nga_ hg BK1;replace BK1:=kl_ BK1 hb;have NB6_10:=am_ ((by rw [hg];exact Nat.ne_of_lt (IsS116.lt (show IsS116 w _ gb6 ((l0.take ((wrap64 (t3+t602)):Int).toNat).drop (t3:Int).toNat) t8 t9 from in116_ HI6)):gb6 ≠ gb10));have NB10_6:=am_ ((by rw [hg];exact Nat.ne_of_gt (IsS116.lt (show IsS116 w _ gb6 ((l0.take ((wrap64 (t3+t602)):Int).toNat).drop (t3:Int).toNat) t8 t9 from in116_ HI6)):gb10 ≠ gb6));replace HI6:=am_ (IsS116.below (in116_ HI6) hb);clear hb hbox hg;have hnb22:=NB10_1.out;have hnc22:=NB1_10.out;have hnb23:=NB10_6.out;have hnc23:=NB6_10.out;have hz24:=cz2_ BK10)|((with_reducible refine gq_ 99 48 ?_);refine gc_ 48 Tryz.func99 (impl_getter_text.calls kj3 gb6 ((l0.take ((wrap64 (t3+t602)):Int).toNat).drop (t3:Int).toNat) t8 t9 t11 t12 t13 w _ (in116_ HI6) (bi116_ HB) A13.out) ?_;rintro e w25 ⟨rfl,hi,hb,hk⟩;refine ⟨_,rfl,?_⟩;replace BK1:=kbk_ hk (kq_ (o':=.cells #[.int .i64 0,.string (⟨#[]⟩:ByteArray)] 37 (0,0)) BK1) NB1_6;replace BK10:=kbk_ hk (kq_ (o':=.cells #[.int .i64 t7,.string (⟨#[]⟩:ByteArray)] 37 (0,0)) BK10) NB10_6;replace HB:=am_ hb;replace HI6:=am_ hi;clear hb hk hi;have hz26:=cz2_ BK10)|((with_reducible refine gq_ 100 50 ?_);refine gc_ 50 Tryz.func100 (impl_getter_texts.calls kj3 gb6 ((l0.take ((wrap64 (t3+t602)):Int).toNat).drop (t3:Int).toNat) t12 t13 t14 t17 true w _ (in116_ HI6) (bi116_ HB) A14.out) ?_;rintro e w27 ⟨v15,rfl,ho0,hi,hb,hk⟩;refine ⟨_,rfl,?_⟩;replace BK1:=kbk_ hk (kq_ (o':=.cells #[.int .i64 0,.string (⟨#[]⟩:ByteArray)] 37 (0,0)) BK1) NB1_6;replace BK10:=kbk_ hk (kq_ (o':=.cells #[.int .i64 t7,.string t11] 37 (0,0)) BK10) NB10_6;have HO16:=am_ (Kd.R_lower ho0 (below_size (bs3_ HB (IsS116.ge HI6.out) GE1.out GE10.out)));replace HB:=am_ hb;replace HI6:=am_ hi;clear hb hk hi ho0))
     obtain ⟨Aq28_0,cq28_0,hb_,hg_,hrq28_0,hqq28_0⟩:=HI6.out
     have BK6:=am_ hb_
     have HRq28_0:=am_ hrq28_0
     have HCq28_0:=am_ hqq28_0
     clear hb_ hg_ hrq28_0 hqq28_0 HI6
     replace HO16:=am_ (Kd.R_drew HO16.out)
     replace BK1:=bd_ BK1
     replace BK6:=bd_ BK6
     replace BK10:=bd_ BK10
     replace HB:=hd_ HB
     refine sw_ 13 (fun w'=>w'.cell? ⟨gb6,0,none⟩=some (.slice Aq28_0 ((l0.take ((wrap64 (t3+t602)):Int).toNat).drop (t3:Int).toNat).length cq28_0)∧w'.cell? ⟨gb6,1,none⟩=some (.int .i64 t17)∧w'.cell? ⟨gb6,2,none⟩=some (.bool true)) [] impl_GetCommit.tab9 impl_GetCommit.bits9 ⟨bc0_ BK6.out,bc1_ BK6.out,bc2_ BK6.out⟩ (fun hHeld HT_ HW_=>?_)
     generalize w27.drew=w29 at HO16 BK1 BK6 BK10 HB hHeld ⊢
     refine pt_ 0 51 1 ?_
     refine tt_ 1 52 3 ?_
     refine pt_ 2 53 7 ?_
     refine ut_ 3 54 15 ?_
     refine ut_ 4 55 31 ?_
     refine ut_ 5 56 63 ?_
     refine ut_ 6 57 127 ?_
     refine ut_ 7 58 255 ?_
     refine ut_ 8 59 511 ?_
     refine ut_ 9 60 1023 ?_
     refine ut_ 10 61 2047 ?_
     refine ut_ 11 62 4095 ?_
     refine pt_ 12 63 8191 ?_
     refine dn_ ?_
     have hz30:=cz2_ BK1
     try go_wp2
     refine bodyPost_ret (results_list (rs:=[.cell 4 37,.tmp 5,.tmp 6,.tmp 7]) rfl (by simp) (.cell gb1 37 #[.int .i64 0,.string (⟨#[]⟩:ByteArray)] (0,0) _ rfl (by exact kq_ BK1) Tryz.underlying37 rfl (by kernel_rfl) (.tmp (.tmp (.tmp .nil))))) rfl ?_
     exact ⟨_,e2_,nil_,bw_ HB⟩
    ·replace H:=bi_ H;obtain ⟨t19,A31,H⟩:=H
     replace H:=ip_ H;obtain ⟨c32,H⟩:=H
     have c32b0:=eq_true c32
     have c32b1:=decide_eq_true c32
     clear c32
     replace H:=ip_ H;obtain ⟨c33,H⟩:=H
     have c33b0:=eq_true c33
     have c33b1:=decide_eq_true c33
     replace H:=ip_ H;obtain ⟨c34,H⟩:=H
     have c34b0:=eq_true c34
     have c34b1:=decide_eq_true c34
     replace H:=bi_ H;obtain ⟨t23,A35,H⟩:=H
     replace H:=itb_ H;obtain ⟨rfl,H⟩|⟨rfl,H⟩:=H
     ·replace H:=so5_ H;obtain ⟨rfl,rfl,rfl,rfl,rfl⟩:=H
      obtain ⟨i037,hi037,_,hsz37,_⟩:=info_parts info5
      obtain ⟨A37,hcut37,hA37,hC37⟩:=print_mid_of (P:=Tryz.prog) (Value.int .u8) 0 27 5 .i64 .i64 Tryz.underlying27 hi037 hsz37 A0 c0 l0 t3 (wrap64 (t3+t602)) (od_) (by first|omega|exact od_) (od_) HC0.out
      have HR5:=am_ (Kd.C_of_reads (h1:=fun _=>rfl) (hA37 _ (Kd.reads_of_C HR0.out)))
      have HC5:=am_ hC37
      clear hA37 hC37 hi037 hsz37
      try go_wp2_with (first|((with_reducible refine gd_ 12 ?_);(try (refine gate_guard (by rfl) ?_;dsimp only));refine x116_ 12 ?_;intro gb6 hg w38 hbox hb;have BK6:=am_ hbox;have GW6:=gg_ hg HB;have GE6:=GW6;replace HB:=ss_ HB hb;have NB1_6:=nla_ hg BK1;have NB6_1:=nga_ hg BK1;replace BK1:=kl_ BK1 hb;clear hb hbox hg;have hnb39:=NB6_1.out;have hnc39:=NB1_6.out;have hz40:=cz3_ BK6)|((with_reducible refine gk_ 98 ?_);refine gl_ 46 Tryz.func98 #[.pointer (some ⟨gb6,0,none⟩)] ?_;refine IsS116.called (w0:=w) (g:=gb6) (f0:=(l0.take ((wrap64 (t3+t602)):Int).toNat).drop (t3:Int).toNat) (f1:=0) (f2:=false) ⟨_,_,by (rw [show ((l0.take ((wrap64 (t3+t602)):Int).toNat).drop (t3:Int).toNat).length=((wrap64 (t3+t602)).toNat - t3.toNat) from (by rw [List.length_drop,List.length_take];have h_:((wrap64 (t3+t602)):Int)≤(l0.length:Int):=od_;omega)]);refine kb_ ?_;refine blk_put (cs:=#[.slice A37 ((wrap64 (t3+t602)).toNat - t3.toNat) (c0 - t3.toNat),.int .i64 0,.bool false]) ?_ 2 _ rfl;refine kb_ ?_;refine blk_put (cs:=#[.slice A37 ((wrap64 (t3+t602)).toNat - t3.toNat) (c0 - t3.toNat),.int .i64 0,.bool false]) ?_ 1 _ rfl;refine kb_ ?_;refine blk_put (cs:=#[.slice none 0 0,.int .i64 0,.bool false]) ?_ 0 _ rfl;refine kb_ ?_;exact BK6.out,GW6.out,HR5.out,HC5.out⟩ (fun HI6=>?_);(with_reducible refine (impl_getter_num.calls kj3 gb6 ((l0.take ((wrap64 (t3+t602)):Int).toNat).drop (t3:Int).toNat) 0 false t7 t8 t9 w _ ?side1 ?side2 A12.out).mono ?_);(case side1=>exact in116_ HI6);(case side2=>exact bi116_ HB);rintro e w41 ⟨rfl,hi,hb,hk⟩;refine ⟨_,rfl,?_⟩;replace BK1:=kbk_ hk (kq_ (o':=.cells #[.int .i64 0,.string (⟨#[]⟩:ByteArray)] 37 (0,0)) BK1) NB1_6;replace HB:=am_ hb;replace HI6:=am_ hi;clear hb hk hi)|((with_reducible refine gd_ 13 ?_);(try (refine gate_guard (by rfl) ?_;dsimp only));refine x37_ 13 ?_;intro gb10 hg w42 hbox hb;have BK10:=am_ hbox;have GW10:=am_ (gz_ hg (below_size (bs2_ HB (IsS116.ge HI6.out) GE1.out)));have GE10:=am_ (gz_ hg (below_size (bs2_ HB (IsS116.ge HI6.out) GE1.out)));replace HB:=am_ (below_step (bs2_ HB (IsS116.ge HI6.out) GE1.out) hb);have NB1_10:=nla_ hg BK1;have NB10_1:=nga_ hg BK1;replace BK1:=kl_ BK1 hb;have NB6_10:=am_ ((by rw [hg];exact Nat.ne_of_lt (IsS116.lt (show IsS116 w _ gb6 ((l0.take ((wrap64 (t3+t602)):Int).toNat).drop (t3:Int).toNat) t8 t9 from in116_ HI6)):gb6 ≠ gb10));have NB10_6:=am_ ((by rw [hg];exact Nat.ne_of_gt (IsS116.lt (show IsS116 w _ gb6 ((l0.take ((wrap64 (t3+t602)):Int).toNat).drop (t3:Int).toNat) t8 t9 from in116_ HI6)):gb10 ≠ gb6));replace HI6:=am_ (IsS116.below (in116_ HI6) hb);clear hb hbox hg;have hnb43:=NB10_1.out;have hnc43:=NB1_10.out;have hnb44:=NB10_6.out;have hnc44:=NB6_10.out;have hz45:=cz2_ BK10)|((with_reducible refine gq_ 99 48 ?_);refine gc_ 48 Tryz.func99 (impl_getter_text.calls kj3 gb6 ((l0.take ((wrap64 (t3+t602)):Int).toNat).drop (t3:Int).toNat) t8 t9 t11 t12 t13 w _ (in116_ HI6) (bi116_ HB) A13.out) ?_;rintro e w46 ⟨rfl,hi,hb,hk⟩;refine ⟨_,rfl,?_⟩;replace BK1:=kbk_ hk (kq_ (o':=.cells #[.int .i64 0,.string (⟨#[]⟩:ByteArray)] 37 (0,0)) BK1) NB1_6;replace BK10:=kbk_ hk (kq_ (o':=.cells #[.int .i64 t7,.string (⟨#[]⟩:ByteArray)] 37 (0,0)) BK10) NB10_6;replace HB:=am_ hb;replace HI6:=am_ hi;clear hb hk hi;have hz47:=cz2_ BK10)|((with_reducible refine gq_ 100 50 ?_);refine gc_ 50 Tryz.func100 (impl_getter_texts.calls kj3 gb6 ((l0.take ((wrap64 (t3+t602)):Int).toNat).drop (t3:Int).toNat) t12 t13 t14 t17 false w _ (in116_ HI6) (bi116_ HB) A14.out) ?_;rintro e w48 ⟨v15,rfl,ho0,hi,hb,hk⟩;refine ⟨_,rfl,?_⟩;replace BK1:=kbk_ hk (kq_ (o':=.cells #[.int .i64 0,.string (⟨#[]⟩:ByteArray)] 37 (0,0)) BK1) NB1_6;replace BK10:=kbk_ hk (kq_ (o':=.cells #[.int .i64 t7,.string t11] 37 (0,0)) BK10) NB10_6;have HO16:=am_ (Kd.R_lower ho0 (below_size (bs3_ HB (IsS116.ge HI6.out) GE1.out GE10.out)));replace HB:=am_ hb;replace HI6:=am_ hi;clear hb hk hi ho0))
      obtain ⟨Aq49_0,cq49_0,hb_,hg_,hrq49_0,hqq49_0⟩:=HI6.out
      have BK6:=am_ hb_
      have HRq49_0:=am_ hrq49_0
      have HCq49_0:=am_ hqq49_0
      clear hb_ hg_ hrq49_0 hqq49_0 HI6
      replace HO16:=am_ (Kd.R_drew HO16.out)
      replace BK1:=bd_ BK1
      replace BK6:=bd_ BK6
      replace BK10:=bd_ BK10
      replace HB:=hd_ HB
      obtain ⟨i051,hi051,_,hsz51,_⟩:=info_parts info5
      obtain ⟨A51,hcut51,hA51,hC51⟩:=print_mid_of (P:=Tryz.prog) (Value.int .u8) 0 27 5 .i64 .i64 Tryz.underlying27 hi051 hsz51 A0 c0 l0 a1 (wrap64 ((wrap64 (t3+t602)) + 4)) (od_) (by first|omega|exact od_) (od_) HC0.out
      have HR22:=am_ (Kd.C_of_reads (h1:=fun _=>rfl) (hA51 _ (Kd.reads_of_C HR0.out)))
      have HC22:=am_ hC51
      clear hA51 hC51 hi051 hsz51
      obtain ⟨Ao52,co52,eo52⟩:=Kd.R_slice HO16.out
      subst eo52
      refine sw_ 13 (fun w'=>w'.cell? ⟨gb6,0,none⟩=some (.slice Aq49_0 ((l0.take ((wrap64 (t3+t602)):Int).toNat).drop (t3:Int).toNat).length cq49_0)∧w'.cell? ⟨gb6,1,none⟩=some (.int .i64 t17)∧w'.cell? ⟨gb6,2,none⟩=some (.bool false)∧w'.cell? ⟨gb10,0,none⟩=some (.int .i64 t7)∧w'.cell? ⟨gb10,1,none⟩=some (.string t11)) [] impl_GetCommit.tab9 impl_GetCommit.bits9 ⟨bc0_ BK6.out,bc1_ BK6.out,bc2_ BK6.out,bc0_ BK10.out,bc1_ BK10.out⟩ (fun hHeld HT_ HW_=>?_)
      generalize w48.drew=w50 at HO16 BK1 BK6 BK10 HB HR22 hHeld ⊢
      refine pt_ 0 51 1 ?_
      refine tt_ 1 52 3 ?_
      refine pt_ 2 53 7 ?_
      refine pt_ 4 55 23 ?_
      refine pt_ 6 57 87 ?_
      refine pt_ 7 58 215 ?_
      refine pt_ 8 59 471 ?_
      refine pt_ 9 60 983 ?_
      refine tt_ 3 54 991 ?_
      refine oz_ 5 56 13 1023 (fun K hK=>?_)
      refine gf_ Tryz.func102 (impl_PutCommit.calls kj3 t7 t11 _ _ t14 t19 _ (ch_ HO16) (cl_ HO16) A31.out) ?_
      rintro e w53 ⟨v20,rfl,ho0,hb⟩
      refine ⟨_,rfl,?_⟩
      replace HO16:=rb_ HO16 hb
      have HO21:=rlo_ ho0 HB
      replace BK1:=kl_ BK1 hb
      replace BK6:=kl_ BK6 hb
      replace BK10:=kl_ BK10 hb
      replace HB:=ss_ HB hb
      clear hb ho0
      obtain ⟨Ao54,co54,eo54⟩:=Kd.R_slice HO21.out
      subst eo54
      refine hK.out _ _ ⟨bc0_ BK6.out,bc1_ BK6.out,bc2_ BK6.out,bc0_ BK10.out,bc1_ BK10.out⟩ (fun hHeld=>?_)
      clear hK K
      refine no_ 56 ?_
      refine oz_ 10 61 13 2047 (fun K hK=>?_)
      refine goes_ Tryz.func101 (by kernel_rfl) rfl #[.slice Ao54 t19.length co54,.slice A51 ((l0.take ((wrap64 ((wrap64 (t3+t602)) + 4)):Int).toNat).drop (a1:Int).toNat).length (c0 - a1.toNat)] (by rfl) rfl rfl (by (try simp only [List.map_toArray,List.map_cons,List.map_nil]);first|done|(rw [show ((l0.take ((wrap64 ((wrap64 (t3+t602)) + 4)):Int).toNat).drop (a1:Int).toNat).length=((wrap64 ((wrap64 (t3+t602)) + 4)).toNat - a1.toNat) from (by rw [List.length_drop,List.length_take];have h_:((wrap64 ((wrap64 (t3+t602)) + 4)):Int)≤(l0.length:Int):=od_;omega)] <;> rfl)|rfl|(simp only [List.length_drop,List.length_take];rfl)) ?_
      with_reducible refine (bytes_Equal.calls _ _ t19 _ _ ((l0.take ((wrap64 ((wrap64 (t3+t602)) + 4)):Int).toNat).drop (a1:Int).toNat) true _ ?side1 ?side2 ?side3 ?side4 A35.out).mono ?_
      (case side1=>exact ch_ HO21)
      (case side2=>exact (cl_ HO21))
      (case side3=>exact cb_ HR22 HB)
      (case side4=>exact HC22.out)
      rintro e w' ⟨rfl,⟨nd,rfl⟩⟩
      refine ⟨_,rfl,?_⟩
      refine hK.out _ _ ⟨bc0_ BK6.out,bc1_ BK6.out,bc2_ BK6.out,bc0_ BK10.out,bc1_ BK10.out⟩ (fun hHeld=>?_)
      clear hK K
      refine no_ 61 ?_
      refine pt_ 11 62 4095 ?_
      refine pt_ 12 63 8191 ?_
      refine dn_ ?_
      have hz55:=cz2_ BK10
      have hz56:=cz2_ BK1
      try go_wp2
      refine bodyPost_ret (results_list (rs:=[.cell 4 37,.tmp 5,.tmp 6,.tmp 7]) rfl (by simp) (.cell gb1 37 #[.int .i64 t7,.string t11] (0,0) _ rfl (by exact kq_ BK1) Tryz.underlying37 rfl (by kernel_rfl) (.tmp (.tmp (.tmp .nil))))) rfl ?_
      exact ⟨_,e2_,kfm_ HO16 BK1,bw_ HB⟩
     ·replace H:=so5_ H;obtain ⟨rfl,rfl,rfl,rfl,rfl⟩:=H
      obtain ⟨i057,hi057,_,hsz57,_⟩:=info_parts info5
      obtain ⟨A57,hcut57,hA57,hC57⟩:=print_mid_of (P:=Tryz.prog) (Value.int .u8) 0 27 5 .i64 .i64 Tryz.underlying27 hi057 hsz57 A0 c0 l0 t3 (wrap64 (t3+t602)) (od_) (by first|omega|exact od_) (od_) HC0.out
      have HR5:=am_ (Kd.C_of_reads (h1:=fun _=>rfl) (hA57 _ (Kd.reads_of_C HR0.out)))
      have HC5:=am_ hC57
      clear hA57 hC57 hi057 hsz57
      try go_wp2_with (first|((with_reducible refine gd_ 12 ?_);(try (refine gate_guard (by rfl) ?_;dsimp only));refine x116_ 12 ?_;intro gb6 hg w58 hbox hb;have BK6:=am_ hbox;have GW6:=gg_ hg HB;have GE6:=GW6;replace HB:=ss_ HB hb;have NB1_6:=nla_ hg BK1;have NB6_1:=nga_ hg BK1;replace BK1:=kl_ BK1 hb;clear hb hbox hg;have hnb59:=NB6_1.out;have hnc59:=NB1_6.out;have hz60:=cz3_ BK6)|((with_reducible refine gk_ 98 ?_);refine gl_ 46 Tryz.func98 #[.pointer (some ⟨gb6,0,none⟩)] ?_;refine IsS116.called (w0:=w) (g:=gb6) (f0:=(l0.take ((wrap64 (t3+t602)):Int).toNat).drop (t3:Int).toNat) (f1:=0) (f2:=false) ⟨_,_,by (rw [show ((l0.take ((wrap64 (t3+t602)):Int).toNat).drop (t3:Int).toNat).length=((wrap64 (t3+t602)).toNat - t3.toNat) from (by rw [List.length_drop,List.length_take];have h_:((wrap64 (t3+t602)):Int)≤(l0.length:Int):=od_;omega)]);refine kb_ ?_;refine blk_put (cs:=#[.slice A57 ((wrap64 (t3+t602)).toNat - t3.toNat) (c0 - t3.toNat),.int .i64 0,.bool false]) ?_ 2 _ rfl;refine kb_ ?_;refine blk_put (cs:=#[.slice A57 ((wrap64 (t3+t602)).toNat - t3.toNat) (c0 - t3.toNat),.int .i64 0,.bool false]) ?_ 1 _ rfl;refine kb_ ?_;refine blk_put (cs:=#[.slice none 0 0,.int .i64 0,.bool false]) ?_ 0 _ rfl;refine kb_ ?_;exact BK6.out,GW6.out,HR5.out,HC5.out⟩ (fun HI6=>?_);(with_reducible refine (impl_getter_num.calls kj3 gb6 ((l0.take ((wrap64 (t3+t602)):Int).toNat).drop (t3:Int).toNat) 0 false t7 t8 t9 w _ ?side1 ?side2 A12.out).mono ?_);(case side1=>exact in116_ HI6);(case side2=>exact bi116_ HB);rintro e w61 ⟨rfl,hi,hb,hk⟩;refine ⟨_,rfl,?_⟩;replace BK1:=kbk_ hk (kq_ (o':=.cells #[.int .i64 0,.string (⟨#[]⟩:ByteArray)] 37 (0,0)) BK1) NB1_6;replace HB:=am_ hb;replace HI6:=am_ hi;clear hb hk hi)|((with_reducible refine gd_ 13 ?_);(try (refine gate_guard (by rfl) ?_;dsimp only));refine x37_ 13 ?_;intro gb10 hg w62 hbox hb;have BK10:=am_ hbox;have GW10:=am_ (gz_ hg (below_size (bs2_ HB (IsS116.ge HI6.out) GE1.out)));have GE10:=am_ (gz_ hg (below_size (bs2_ HB (IsS116.ge HI6.out) GE1.out)));replace HB:=am_ (below_step (bs2_ HB (IsS116.ge HI6.out) GE1.out) hb);have NB1_10:=nla_ hg BK1;have NB10_1:=nga_ hg BK1;replace BK1:=kl_ BK1 hb;have NB6_10:=am_ ((by rw [hg];exact Nat.ne_of_lt (IsS116.lt (show IsS116 w _ gb6 ((l0.take ((wrap64 (t3+t602)):Int).toNat).drop (t3:Int).toNat) t8 t9 from in116_ HI6)):gb6 ≠ gb10));have NB10_6:=am_ ((by rw [hg];exact Nat.ne_of_gt (IsS116.lt (show IsS116 w _ gb6 ((l0.take ((wrap64 (t3+t602)):Int).toNat).drop (t3:Int).toNat) t8 t9 from in116_ HI6)):gb10 ≠ gb6));replace HI6:=am_ (IsS116.below (in116_ HI6) hb);clear hb hbox hg;have hnb63:=NB10_1.out;have hnc63:=NB1_10.out;have hnb64:=NB10_6.out;have hnc64:=NB6_10.out;have hz65:=cz2_ BK10)|((with_reducible refine gq_ 99 48 ?_);refine gc_ 48 Tryz.func99 (impl_getter_text.calls kj3 gb6 ((l0.take ((wrap64 (t3+t602)):Int).toNat).drop (t3:Int).toNat) t8 t9 t11 t12 t13 w _ (in116_ HI6) (bi116_ HB) A13.out) ?_;rintro e w66 ⟨rfl,hi,hb,hk⟩;refine ⟨_,rfl,?_⟩;replace BK1:=kbk_ hk (kq_ (o':=.cells #[.int .i64 0,.string (⟨#[]⟩:ByteArray)] 37 (0,0)) BK1) NB1_6;replace BK10:=kbk_ hk (kq_ (o':=.cells #[.int .i64 t7,.string (⟨#[]⟩:ByteArray)] 37 (0,0)) BK10) NB10_6;replace HB:=am_ hb;replace HI6:=am_ hi;clear hb hk hi;have hz67:=cz2_ BK10)|((with_reducible refine gq_ 100 50 ?_);refine gc_ 50 Tryz.func100 (impl_getter_texts.calls kj3 gb6 ((l0.take ((wrap64 (t3+t602)):Int).toNat).drop (t3:Int).toNat) t12 t13 t14 t17 false w _ (in116_ HI6) (bi116_ HB) A14.out) ?_;rintro e w68 ⟨v15,rfl,ho0,hi,hb,hk⟩;refine ⟨_,rfl,?_⟩;replace BK1:=kbk_ hk (kq_ (o':=.cells #[.int .i64 0,.string (⟨#[]⟩:ByteArray)] 37 (0,0)) BK1) NB1_6;replace BK10:=kbk_ hk (kq_ (o':=.cells #[.int .i64 t7,.string t11] 37 (0,0)) BK10) NB10_6;have HO16:=am_ (Kd.R_lower ho0 (below_size (bs3_ HB (IsS116.ge HI6.out) GE1.out GE10.out)));replace HB:=am_ hb;replace HI6:=am_ hi;clear hb hk hi ho0))
      obtain ⟨Aq69_0,cq69_0,hb_,hg_,hrq69_0,hqq69_0⟩:=HI6.out
      have BK6:=am_ hb_
      have HRq69_0:=am_ hrq69_0
      have HCq69_0:=am_ hqq69_0
      clear hb_ hg_ hrq69_0 hqq69_0 HI6
      replace HO16:=am_ (Kd.R_drew HO16.out)
      replace BK1:=bd_ BK1
      replace BK6:=bd_ BK6
      replace BK10:=bd_ BK10
      replace HB:=hd_ HB
      obtain ⟨i071,hi071,_,hsz71,_⟩:=info_parts info5
      obtain ⟨A71,hcut71,hA71,hC71⟩:=print_mid_of (P:=Tryz.prog) (Value.int .u8) 0 27 5 .i64 .i64 Tryz.underlying27 hi071 hsz71 A0 c0 l0 a1 (wrap64 ((wrap64 (t3+t602)) + 4)) (od_) (by first|omega|exact od_) (od_) HC0.out
      have HR22:=am_ (Kd.C_of_reads (h1:=fun _=>rfl) (hA71 _ (Kd.reads_of_C HR0.out)))
      have HC22:=am_ hC71
      clear hA71 hC71 hi071 hsz71
      obtain ⟨Ao72,co72,eo72⟩:=Kd.R_slice HO16.out
      subst eo72
      refine sw_ 13 (fun w'=>w'.cell? ⟨gb6,0,none⟩=some (.slice Aq69_0 ((l0.take ((wrap64 (t3+t602)):Int).toNat).drop (t3:Int).toNat).length cq69_0)∧w'.cell? ⟨gb6,1,none⟩=some (.int .i64 t17)∧w'.cell? ⟨gb6,2,none⟩=some (.bool false)∧w'.cell? ⟨gb10,0,none⟩=some (.int .i64 t7)∧w'.cell? ⟨gb10,1,none⟩=some (.string t11)) [] impl_GetCommit.tab9 impl_GetCommit.bits9 ⟨bc0_ BK6.out,bc1_ BK6.out,bc2_ BK6.out,bc0_ BK10.out,bc1_ BK10.out⟩ (fun hHeld HT_ HW_=>?_)
      generalize w68.drew=w70 at HO16 BK1 BK6 BK10 HB HR22 hHeld ⊢
      refine pt_ 0 51 1 ?_
      refine tt_ 1 52 3 ?_
      refine pt_ 2 53 7 ?_
      refine pt_ 4 55 23 ?_
      refine pt_ 6 57 87 ?_
      refine pt_ 7 58 215 ?_
      refine pt_ 8 59 471 ?_
      refine pt_ 9 60 983 ?_
      refine tt_ 3 54 991 ?_
      refine oz_ 5 56 13 1023 (fun K hK=>?_)
      refine gf_ Tryz.func102 (impl_PutCommit.calls kj3 t7 t11 _ _ t14 t19 _ (ch_ HO16) (cl_ HO16) A31.out) ?_
      rintro e w73 ⟨v20,rfl,ho0,hb⟩
      refine ⟨_,rfl,?_⟩
      have HO21:=rlo_ ho0 HB
      replace BK1:=kl_ BK1 hb
      replace BK6:=kl_ BK6 hb
      replace BK10:=kl_ BK10 hb
      replace HB:=ss_ HB hb
      clear hb ho0
      obtain ⟨Ao74,co74,eo74⟩:=Kd.R_slice HO21.out
      subst eo74
      refine hK.out _ _ ⟨bc0_ BK6.out,bc1_ BK6.out,bc2_ BK6.out,bc0_ BK10.out,bc1_ BK10.out⟩ (fun hHeld=>?_)
      clear hK K
      refine no_ 56 ?_
      refine oz_ 10 61 13 2047 (fun K hK=>?_)
      refine goes_ Tryz.func101 (by kernel_rfl) rfl #[.slice Ao74 t19.length co74,.slice A71 ((l0.take ((wrap64 ((wrap64 (t3+t602)) + 4)):Int).toNat).drop (a1:Int).toNat).length (c0 - a1.toNat)] (by rfl) rfl rfl (by (try simp only [List.map_toArray,List.map_cons,List.map_nil]);first|done|(rw [show ((l0.take ((wrap64 ((wrap64 (t3+t602)) + 4)):Int).toNat).drop (a1:Int).toNat).length=((wrap64 ((wrap64 (t3+t602)) + 4)).toNat - a1.toNat) from (by rw [List.length_drop,List.length_take];have h_:((wrap64 ((wrap64 (t3+t602)) + 4)):Int)≤(l0.length:Int):=od_;omega)] <;> rfl)|rfl|(simp only [List.length_drop,List.length_take];rfl)) ?_
      with_reducible refine (bytes_Equal.calls _ _ t19 _ _ ((l0.take ((wrap64 ((wrap64 (t3+t602)) + 4)):Int).toNat).drop (a1:Int).toNat) false _ ?side1 ?side2 ?side3 ?side4 A35.out).mono ?_
      (case side1=>exact ch_ HO21)
      (case side2=>exact (cl_ HO21))
      (case side3=>exact cb_ HR22 HB)
      (case side4=>exact HC22.out)
      rintro e w' ⟨rfl,⟨nd,rfl⟩⟩
      refine ⟨_,rfl,?_⟩
      refine hK.out _ _ ⟨bc0_ BK6.out,bc1_ BK6.out,bc2_ BK6.out,bc0_ BK10.out,bc1_ BK10.out⟩ (fun hHeld=>?_)
      clear hK K
      refine no_ 61 ?_
      refine pt_ 11 62 4095 ?_
      refine pt_ 12 63 8191 ?_
      refine dn_ ?_
      have hz75:=cz2_ BK1
      try go_wp2
      refine bodyPost_ret (results_list (rs:=[.cell 4 37,.tmp 5,.tmp 6,.tmp 7]) rfl (by simp) (.cell gb1 37 #[.int .i64 0,.string (⟨#[]⟩:ByteArray)] (0,0) _ rfl (by exact kq_ BK1) Tryz.underlying37 rfl (by kernel_rfl) (.tmp (.tmp (.tmp .nil))))) rfl ?_
      exact ⟨_,e2_,nil_,bw_ HB⟩
def impl_rootOf.f:Nat->List ByteArray->Option (ByteArray)
 | 0,_=>none
 | k+1,l0=>if (l0.length:Int)=0 then ((impl_Digest.f ([]:List Int)).bind fun t1=>(some t1)) else (if (l0.length:Int)=1 then (if 0 < (l0.length:Int) then ((impl_LeafHash.f (rdOf ByteArray.empty l0 0)).bind fun t3=>(some t3)) else (none)) else ((impl_half.f k (l0.length:Int)).bind fun t4=>(if 0≤t4 then (if t4≤(l0.length:Int) then ((impl_rootOf.f k (l0.take (t4:Int).toNat)).bind fun t6=>((impl_rootOf.f k (l0.drop (t4:Int).toNat)).bind fun t8=>((impl_NodeHash.f t6 t8).bind fun t9=>(some t9)))) else (none)) else (none))))
def impl_rootOf.T7:Bool × List (List Nat × List Nat):=(true,[([],[]),([],[]),([0,1],[0,1]),([2],[2]),([],[]),([],[]),([4,5],[4,5]),([6,3],[6]),([3,7,7],[3,7]),([8,8,0,1,2,3,4,5,6,7,8],[8])])
def impl_rootOf.B7:List Nat:=[0,0,3,7,0,0,48,127,255,511]
theorem impl_rootOf.tab7:rtab .any (opsOf Tryz.f103 7)=impl_rootOf.T7:=by kernel_rfl
theorem impl_rootOf.bits7:waitsOk impl_rootOf.T7.2 impl_rootOf.B7=true:=by kernel_rfl
theorem impl_rootOf.calls (k:Nat):∀ (A0:Option Addr) (c0:Nat) (l0:List ByteArray) (r:ByteArray) (w:World) (hr0:Kd.C Kd.string w A0 l0.length l0) (hc0:l0.length≤c0) (h:impl_rootOf.f k l0=some r),
  Calls Tryz.prog 103 #[.slice A0 l0.length c0] w fun e w'=>e = .returned (.string r)∧Below w.heap.size w w':=by
 induction k using Nat.strongRecOn with
 | _ k ih =>
 intro A0 c0 l0 r w hr0 hc0 h
 cases k with
 | zero=>exact absurd h (by simp [impl_rootOf.f])
 | succ k =>
 simp only [impl_rootOf.f] at h
 have HR0:=am_ hr0
 have HC0:=am_ hc0
 clear hr0 hc0
 have HB:=h0_ w
 have H:(if (l0.length:Int)=0 then ((impl_Digest.f ([]:List Int)).bind fun t1=>(some t1)) else (if (l0.length:Int)=1 then (if 0 < (l0.length:Int) then ((impl_LeafHash.f (rdOf ByteArray.empty l0 0)).bind fun t3=>(some t3)) else (none)) else ((impl_half.f k (l0.length:Int)).bind fun t4=>(if 0≤t4 then (if t4≤(l0.length:Int) then ((impl_rootOf.f k (l0.take (t4:Int).toNat)).bind fun t6=>((impl_rootOf.f k (l0.drop (t4:Int).toNat)).bind fun t8=>((impl_NodeHash.f t6 t8).bind fun t9=>(some t9)))) else (none)) else (none)))))=some r:=h
 clear h
 replace H:=it_ H;obtain ⟨c2,H⟩|⟨c2,H⟩:=H
 ·have c2b0:((l0.length:Int) == 0)=true:=beq_iff_eq.mpr c2
  have c2b1:((l0.length:Int) != 0)=false:=bne_eq_false_iff_eq.mpr c2
  clear c2
  replace H:=bi_ H;obtain ⟨t1,A3,H⟩:=H
  obtain rfl:=Option.some.inj H
  go_enter Tryz.func103,Tryz.ntmps103
  go_wp2_with (first|((with_reducible refine gk_ 133 ?_);refine gl_ 8 Tryz.func133 #[.slice none 0 0] ?_;(refine (impl_Digest.calls _ _ ([]:List Int) t1 _ ?side1 ?side2 A3.out).mono ?_);(case side1=>exact Kd.C_nil _ _);(case side2=>exact Nat.le_refl _);rintro e w4 ⟨rfl,hb⟩;refine ⟨_,rfl,?_⟩;replace HB:=ss_ HB hb;clear hb))
  go_ret
  exact ⟨e2_,bw_ HB⟩
 ·have c2b0:((l0.length:Int) == 0)=false:=beq_eq_false_iff_ne.mpr c2
  have c2b1:((l0.length:Int) != 0)=true:=bne_iff_ne.mpr c2
  have c2b2:¬ (l0=[]):=fun h_=>c2 (by rw [h_];rfl)
  replace H:=it_ H;obtain ⟨c5,H⟩|⟨c5,H⟩:=H
  ·have c5b0:((l0.length:Int) == 1)=true:=beq_iff_eq.mpr c5
   have c5b1:((l0.length:Int) != 1)=false:=bne_eq_false_iff_eq.mpr c5
   clear c5
   replace H:=ip_ H;obtain ⟨c6,H⟩:=H
   have c6b0:=decide_eq_true c6
   have c6b1:decide (0 < l0.length)=true:=decide_eq_true (by omega)
   clear c6
   replace H:=bi_ H;obtain ⟨t3,A7,H⟩:=H
   obtain rfl:=Option.some.inj H
   have p602:0≤(0:Int):=(by omega)
   have q602:0 < (l0.length:Int):=od_
   obtain ⟨ad2,e602,hx2_0⟩:=Kd.at_string HR0.out 0 p602 q602
   cases e602
   have qi2:(0 < l0.length)=True:=eq_true (by omega)
   (try rw [show ((0:Int)).toNat=0 from rfl] at hx2_0)
   (try rw [Addr.add_zero'] at hx2_0)
   replace p602:=eq_true p602
   replace q602:=eq_true q602
   go_enter Tryz.func103,Tryz.ntmps103
   go_wp2_with (first|((with_reducible refine gq_ 134 14 ?_);refine gc_ 14 Tryz.func134 (impl_LeafHash.calls (rdOf ByteArray.empty l0 0) t3 _ A7.out) ?_;rintro e w8 ⟨rfl,hb⟩;refine ⟨_,rfl,?_⟩;replace HB:=ss_ HB hb;clear hb))
   go_ret
   exact ⟨e2_,bw_ HB⟩
  ·have c5b0:((l0.length:Int) == 1)=false:=beq_eq_false_iff_ne.mpr c5
   have c5b1:((l0.length:Int) != 1)=true:=bne_iff_ne.mpr c5
   replace H:=bi_ H;obtain ⟨t4,A9,H⟩:=H
   replace H:=ip_ H;obtain ⟨c10,H⟩:=H
   have c10b0:=eq_true c10
   have c10b1:=decide_eq_true c10
   clear c10
   replace H:=ip_ H;obtain ⟨c11,H⟩:=H
   have c11b0:=eq_true c11
   have c11b1:=decide_eq_true c11
   clear c11
   replace H:=bi_ H;obtain ⟨t6,A12,H⟩:=H
   have c13b0:=eq_true (od_:0≤t4)
   have c14b0:=eq_true (od_:t4≤(l0.length:Int))
   replace H:=bi_ H;obtain ⟨t8,A15,H⟩:=H
   replace H:=bi_ H;obtain ⟨t9,A16,H⟩:=H
   obtain rfl:=Option.some.inj H
   go_enter Tryz.func103,Tryz.ntmps103
   try go_wp2_with (first|((with_reducible refine gq_ 135 17 ?_);refine gc_ 17 Tryz.func135 (impl_half.calls k (l0.length:Int) t4 _ A9.out) ?_;rintro e w17 ⟨rfl,hb⟩;refine ⟨_,rfl,?_⟩;replace HB:=ss_ HB hb;clear hb))
   replace HB:=hd_ HB
   obtain ⟨i019,hi019,_,hsz19,_⟩:=info_parts info9
   obtain ⟨hcut19,hA19,hC19⟩:=print_take_of (P:=Tryz.prog) Value.string (⟨#[]⟩:ByteArray) 22 9 .i64 Tryz.underlying22 hi019 hsz19 A0 c0 l0 t4 (od_) (od_) HC0.out
   have HR5:=am_ (Kd.C_of_reads (h1:=fun _=>rfl) (hA19 _ (Kd.reads_of_C HR0.out)))
   have HC5:=am_ hC19
   clear hA19 hC19 hi019 hsz19
   obtain ⟨i020,hi020,_,hsz20,_⟩:=info_parts info9
   obtain ⟨A20,hcut20,hA20,hC20⟩:=print_drop_of (P:=Tryz.prog) Value.string (⟨#[]⟩:ByteArray) 22 9 .i64 Tryz.underlying22 hi020 hsz20 A0 c0 l0 t4 (od_) (od_) HC0.out
   have HR7:=am_ (Kd.C_of_reads (h1:=fun _=>rfl) (hA20 _ (Kd.reads_of_C HR0.out)))
   have HC7:=am_ hC20
   clear hA20 hC20 hi020 hsz20
   refine sw_ 10 (fun w'=>True) [] impl_rootOf.tab7 impl_rootOf.bits7 trivial (fun hHeld HT_ HW_=>?_)
   generalize w17.drew=w18 at HB HR5 HR7 hHeld ⊢
   refine pt_ 0 18 1 ?_
   refine pt_ 1 19 3 ?_
   refine pt_ 2 20 7 ?_
   refine pt_ 4 22 23 ?_
   refine pt_ 5 23 55 ?_
   refine pt_ 6 24 119 ?_
   refine oz_ 3 21 10 127 (fun K hK=>?_)
   refine goes_ Tryz.func103 (by kernel_rfl) rfl #[.slice A0 (l0.take (t4:Int).toNat).length c0] (by rfl) rfl rfl (by (try simp only [List.map_toArray,List.map_cons,List.map_nil]);first|done|(rw [show (l0.take (t4:Int).toNat).length=t4.toNat from (by rw [List.length_take];have h_:(t4:Int)≤(l0.length:Int):=od_;omega)] <;> rfl)|rfl|(simp only [List.length_drop,List.length_take];rfl)) ?_
   with_reducible refine (ih k (by omega) _ _ (l0.take (t4:Int).toNat) t6 _ ?side1 ?side2 A12.out).mono ?_
   (case side1=>exact cb_ HR5 HB)
   (case side2=>exact HC5.out)
   rintro e w21 ⟨rfl,hb⟩
   refine ⟨_,rfl,?_⟩
   replace HB:=ss_ HB hb
   clear hb
   refine hK.out _ _ trivial (fun hHeld=>?_)
   clear hK K
   refine no_ 21 ?_
   refine oz_ 7 25 10 255 (fun K hK=>?_)
   refine goes_ Tryz.func103 (by kernel_rfl) rfl #[.slice A20 (l0.drop (t4:Int).toNat).length (c0 - t4.toNat)] (by rfl) rfl rfl (by (try simp only [List.map_toArray,List.map_cons,List.map_nil]);first|done|(rw [show (l0.drop (t4:Int).toNat).length=(l0.length - t4.toNat) from List.length_drop] <;> rfl)|rfl|(simp only [List.length_drop,List.length_take];rfl)) ?_
   with_reducible refine (ih k (by omega) _ _ (l0.drop (t4:Int).toNat) t8 _ ?side1 ?side2 A15.out).mono ?_
   (case side1=>exact cb_ HR7 HB)
   (case side2=>exact HC7.out)
   rintro e w22 ⟨rfl,hb⟩
   refine ⟨_,rfl,?_⟩
   replace HB:=ss_ HB hb
   clear hb
   refine hK.out _ _ trivial (fun hHeld=>?_)
   clear hK K
   refine no_ 25 ?_
   refine oz_ 8 26 10 511 (fun K hK=>?_)
   refine gf_ Tryz.func136 (impl_NodeHash.calls t6 t8 t9 _ A16.out) ?_
   rintro e w23 ⟨rfl,hb⟩
   refine ⟨_,rfl,?_⟩
   replace HB:=ss_ HB hb
   clear hb
   refine hK.out _ _ trivial (fun hHeld=>?_)
   clear hK K
   refine no_ 26 ?_
   refine pt_ 9 2 1023 ?_
   refine dn_ ?_
   try go_wp2
   go_ret
   exact ⟨e2_,bw_ HB⟩
def impl_HeadOf.f (k:Nat) (l0:List ByteArray):Option (Int × ByteArray):=if (l0.length:Int) > 200 then (some (0,(⟨#[]⟩:ByteArray))) else ((impl_rootOf.f k l0).bind fun t602=>(some ((l0.length:Int),t602)))
theorem impl_HeadOf.calls (k:Nat) (A0:Option Addr) (c0:Nat) (l0:List ByteArray) (r1:Int) (r2:ByteArray) (w:World) (hr0:Kd.C Kd.string w A0 l0.length l0) (hc0:l0.length≤c0) (h:impl_HeadOf.f k l0=some (r1,r2)) :
  Calls Tryz.prog 65 #[.slice A0 l0.length c0] w fun e w'=>e = .returned (.agg #[.int .i64 r1,.string r2])∧Below w.heap.size w w':=by
 have hu37:=Tryz.underlying37
 have HR0:=am_ hr0
 have HC0:=am_ hc0
 clear hr0 hc0
 have HB:=h0_ w
 have H:(if (l0.length:Int) > 200 then (some (0,(⟨#[]⟩:ByteArray))) else ((impl_rootOf.f k l0).bind fun t602=>(some ((l0.length:Int),t602))))=some (r1,r2):=h
 clear h
 replace H:=it_ H;obtain ⟨c2,H⟩|⟨c2,H⟩:=H
 ·have c2b0:decide (200 < (l0.length:Int))=true:=decide_eq_true c2
  have c2b1:decide (200 < l0.length)=true:=decide_eq_true (by omega)
  clear c2
  replace H:=so2_ H;obtain ⟨rfl,rfl⟩:=H
  go_enter Tryz.func65,Tryz.ntmps65
  go_wp2_with (first|((with_reducible refine gd_ 2 ?_);refine x37_ 2 (hx_ HB ?_);clear HB;intro gb1 w3 BK1 GW1 HB;have GE1:=GW1;have hz4:=cz2_ BK1))
  refine bodyPost_ret (rcr_ gb1 37 #[.int .i64 0,.string (⟨#[]⟩:ByteArray)] BK1 Tryz.underlying37) rfl ?_
  exact ⟨e2_,bw_ HB⟩
 ·have c2b0:decide (200 < (l0.length:Int))=false:=decide_eq_false c2
  have c2b1:decide (200 < l0.length)=false:=decide_eq_false (by omega)
  clear c2
  replace H:=bi_ H;obtain ⟨t602,A5,H⟩:=H
  replace H:=so2_ H;obtain ⟨rfl,rfl⟩:=H
  go_enter Tryz.func65,Tryz.ntmps65
  go_wp2_with (first|((with_reducible refine gd_ 2 ?_);refine x37_ 2 (hx_ HB ?_);clear HB;intro gb1 w6 BK1 GW1 HB;have GE1:=GW1)|((with_reducible refine gq_ 103 10 ?_);refine gc_ 10 Tryz.func103 (impl_rootOf.calls k _ _ l0 t602 _ (cb_ HR0 HB) HC0.out A5.out) ?_;rintro e w7 ⟨rfl,hb⟩;refine ⟨_,rfl,?_⟩;replace BK1:=kl_ BK1 hb;replace HB:=ss_ HB hb;clear hb;have hz8:=cz2_ BK1))
  refine bodyPost_ret (rcr_ gb1 37 #[.int .i64 (l0.length:Int),.string t602] BK1 Tryz.underlying37) rfl ?_
  exact ⟨e2_,bw_ HB⟩
section
attribute [local go_sem high] eqA37
def impl_LogOk.f (k:Nat) (l0_0:List ByteArray) (a0_1:Int) (a0_2:ByteArray):Option (Bool):=if (l0_0.length:Int)≤200 then ((impl_HeadOf.f k l0_0).bind fun bt2=>(some (a0_1 == bt2.1 && (a0_2.toList == bt2.2.toList)))) else (some false)
def impl_LogOk.T1:Bool × List (List Nat × List Nat):=(true,[([],[]),([0],[0]),([1],[1]),([2],[2]),([3],[3]),([4],[4]),([5,4],[4,5]),([4],[4]),([7,4],[4,7]),([8,4,4],[4,8]),([6,9,4],[4,6,9]),([4,10],[4,10]),([11,9,0,1,2,3,4,5,6,7,8,9,10,11],[11])])
def impl_LogOk.B1:List Nat:=[0,1,3,7,15,31,63,31,159,415,1023,2047,4095]
theorem impl_LogOk.tab1:rtab .any (opsOf Tryz.f62 1)=impl_LogOk.T1:=by kernel_rfl
theorem impl_LogOk.bits1:waitsOk impl_LogOk.T1.2 impl_LogOk.B1=true:=by kernel_rfl
theorem impl_LogOk.calls (k:Nat) (A0_0:Option Addr) (c0_0:Nat) (l0_0:List ByteArray) (a0_1:Int) (a0_2:ByteArray) (r:Bool) (w:World) (hr0_0:Kd.C Kd.string w A0_0 l0_0.length l0_0) (hc0_0:l0_0.length≤c0_0) (h:impl_LogOk.f k l0_0 a0_1 a0_2=some r) :
  Calls Tryz.prog 62 #[.agg #[.slice A0_0 l0_0.length c0_0,.int .i64 a0_1,.string a0_2]] w fun e w'=>e = .returned (.bool r)∧Below w.heap.size w w':=by
 have hu39:=Tryz.underlying39
 have hu37:=Tryz.underlying37
 have HR0_0:=am_ hr0_0
 have HC0_0:=am_ hc0_0
 clear hr0_0 hc0_0
 have HB:=h0_ w
 have H:(if (l0_0.length:Int)≤200 then ((impl_HeadOf.f k l0_0).bind fun bt2=>(some (a0_1 == bt2.1 && (a0_2.toList == bt2.2.toList)))) else (some false))=some r:=h
 clear h
 replace H:=it_ H;obtain ⟨c2,H⟩|⟨c2,H⟩:=H
 ·have c2b0:=decide_eq_true c2
  have c2b1:decide (l0_0.length≤200)=true:=decide_eq_true (by omega)
  clear c2
  replace H:=bi_ H;obtain ⟨⟨t602,t3⟩,A3,H⟩:=H
  dsimp only at H
  obtain rfl:=Option.some.inj H
  go_enter Tryz.func62,Tryz.ntmps62
  try go_wp2_with (first|((with_reducible refine gd_ 1 ?_);refine bx_ 1 39 #[.slice A0_0 l0_0.length c0_0,.int .i64 a0_1,.string a0_2] (hx_ HB ?_);clear HB;intro gb1 w4 BK1 GW1 HB;have GE1:=GW1))
  replace BK1:=bd_ BK1
  replace HB:=hd_ HB
  refine sw_ 13 (fun w'=>w'.cell? ⟨gb1,0,none⟩=some (.slice A0_0 l0_0.length c0_0)∧w'.cell? ⟨gb1,1,none⟩=some (.int .i64 a0_1)∧w'.cell? ⟨gb1,2,none⟩=some (.string a0_2)) [] impl_LogOk.tab1 impl_LogOk.bits1 ⟨bc0_ BK1.out,bc1_ BK1.out,bc2_ BK1.out⟩ (fun hHeld HT_ HW_=>?_)
  generalize w4.drew=w5 at BK1 HB hHeld ⊢
  refine pt_ 0 3 1 ?_
  refine tt_ 1 4 3 ?_
  refine pt_ 2 5 7 ?_
  refine pt_ 3 6 15 ?_
  refine pt_ 4 7 31 ?_
  refine pt_ 5 8 63 ?_
  refine pt_ 7 10 191 ?_
  refine tt_ 6 9 255 ?_
  refine tt_ 8 11 511 ?_
  refine oz_ 9 12 13 1023 (fun K hK=>?_)
  refine gf_ Tryz.func65 (impl_HeadOf.calls k _ _ l0_0 t602 t3 _ (cb_ HR0_0 HB) HC0_0.out A3.out) ?_
  rintro e w6 ⟨rfl,hb⟩
  refine ⟨_,rfl,?_⟩
  replace BK1:=kl_ BK1 hb
  replace HB:=ss_ HB hb
  clear hb
  refine hK.out _ _ ⟨bc0_ BK1.out,bc1_ BK1.out,bc2_ BK1.out⟩ (fun hHeld=>?_)
  clear hK K
  refine no_ 12 ?_
  refine pt_ 10 13 2047 ?_
  refine pt_ 11 14 4095 ?_
  refine pt_ 12 2 8191 ?_
  refine dn_ ?_
  try go_wp2
  go_ret
  exact ⟨e2_,bw_ HB⟩
 ·have c2b0:=decide_eq_false c2
  have c2b1:decide (l0_0.length≤200)=false:=decide_eq_false (by omega)
  clear c2
  obtain rfl:=Option.some.inj H
  go_enter Tryz.func62,Tryz.ntmps62
  try go_wp2_with (first|((with_reducible refine gd_ 1 ?_);refine bx_ 1 39 #[.slice A0_0 l0_0.length c0_0,.int .i64 a0_1,.string a0_2] (hx_ HB ?_);clear HB;intro gb1 w7 BK1 GW1 HB;have GE1:=GW1))
  replace BK1:=bd_ BK1
  replace HB:=hd_ HB
  refine sw_ 13 (fun w'=>w'.cell? ⟨gb1,0,none⟩=some (.slice A0_0 l0_0.length c0_0)∧w'.cell? ⟨gb1,1,none⟩=some (.int .i64 a0_1)∧w'.cell? ⟨gb1,2,none⟩=some (.string a0_2)) [] impl_LogOk.tab1 impl_LogOk.bits1 ⟨bc0_ BK1.out,bc1_ BK1.out,bc2_ BK1.out⟩ (fun hHeld HT_ HW_=>?_)
  generalize w7.drew=w8 at BK1 HB hHeld ⊢
  refine pt_ 0 3 1 ?_
  refine tt_ 1 4 3 ?_
  refine pt_ 2 5 7 ?_
  refine pt_ 3 6 15 ?_
  refine pt_ 4 7 31 ?_
  refine ut_ 5 8 63 ?_
  refine ut_ 6 9 127 ?_
  refine ut_ 7 10 255 ?_
  refine ut_ 8 11 511 ?_
  refine ut_ 9 12 1023 ?_
  refine ut_ 10 13 2047 ?_
  refine pt_ 11 14 4095 ?_
  refine pt_ 12 2 8191 ?_
  refine dn_ ?_
  try go_wp2
  go_ret
  exact ⟨e2_,bw_ HB⟩
end
section
attribute [local go_sem high] eqA37
mutual
def impl_StoreOk.j0:Nat->Bool->List ByteArray->Int->ByteArray->List Int->Int->Option (Bool)
 | 0,_,_,_,_,_,_=>none
 | k+1,x27,x2000,x2001,x2002,x2003,x2004=>if x27=true then (some false) else (impl_StoreOk.l0 k ([]:List ByteArray) 0 x2000 x2001 x2002 x2003 x2004)
def impl_StoreOk.l0:Nat->List ByteArray->Int->List ByteArray->Int->ByteArray->List Int->Int->Option (Bool)
 | 0,_,_,_,_,_,_,_=>none
 | k+1,x3,x4,x2000,x2001,x2002,x2003,x2004=>if x4 < (x2003.length:Int) then ((impl_GetCommit.f k x2003 x4).bind fun bt5=>(if x3.length+bt5.2.2.1.length < 8796093022208 then ((some (x3 ++ bt5.2.2.1:List ByteArray)).bind fun y13=>(if bt5.2.2.2.2=true then ((impl_HeadOf.f k y13).bind fun bt16=>(if (!(bt5.1 == bt16.1) || (!(bt5.2.1.toList == bt16.2.toList)))=true then (some false) else (impl_StoreOk.l0 k y13 bt5.2.2.2.1 x2000 x2001 x2002 x2003 x2004))) else (some false))) else (none))) else ((slices_Equal_string_string.f k x3 x2000).bind fun t4=>(some t4))
end
def impl_StoreOk.f (k:Nat) (l0_0:List ByteArray) (a0_1:Int) (a0_2:ByteArray) (l0_3:List Int) (a0_4:Int):Option (Bool):=(impl_LogOk.f k l0_0 a0_1 a0_2).bind fun t602=>(if t602=true then (if (l0_3.length:Int) > 60000 then (impl_StoreOk.j0 k true l0_0 a0_1 a0_2 l0_3 a0_4) else ((impl_inRange.f a0_4 0 (l0_3.length:Int)).bind fun t3=>(impl_StoreOk.j0 k (!t3) l0_0 a0_1 a0_2 l0_3 a0_4))) else (impl_StoreOk.j0 k true l0_0 a0_1 a0_2 l0_3 a0_4))
def impl_StoreOk.T8:Bool × List (List Nat × List Nat):=(true,[([],[]),([0],[0]),([1],[1]),([2],[2]),([2],[2]),([4,2,2],[2,4]),([3,5,2],[2,3,5]),([2,6],[2,6])])
def impl_StoreOk.B8:List Nat:=[0,1,3,7,7,23,63,127]
theorem impl_StoreOk.tab8:rtab .any (opsOf Tryz.f29 8)=impl_StoreOk.T8:=by kernel_rfl
theorem impl_StoreOk.bits8:waitsOk impl_StoreOk.T8.2 impl_StoreOk.B8=true:=by kernel_rfl
theorem impl_StoreOk.calls (k:Nat) (A0_0:Option Addr) (c0_0:Nat) (l0_0:List ByteArray) (a0_1:Int) (a0_2:ByteArray) (A0_3:Option Addr) (c0_3:Nat) (l0_3:List Int) (a0_4:Int) (r:Bool) (w:World) (hr0_0:Kd.C Kd.string w A0_0 l0_0.length l0_0) (hc0_0:l0_0.length≤c0_0) (hr0_3:Kd.C (Kd.int .u8) w A0_3 l0_3.length l0_3) (hc0_3:l0_3.length≤c0_3) (h:impl_StoreOk.f k l0_0 a0_1 a0_2 l0_3 a0_4=some r) :
  Calls Tryz.prog 29 #[.agg #[.slice A0_0 l0_0.length c0_0,.int .i64 a0_1,.string a0_2,.slice A0_3 l0_3.length c0_3,.int .i64 a0_4]] w fun e w'=>e = .returned (.bool r)∧Below w.heap.size w w':=by
 have hu41:=Tryz.underlying41
 have hu39:=Tryz.underlying39
 have hu37:=Tryz.underlying37
 have HR0_0:=am_ hr0_0
 have HC0_0:=am_ hc0_0
 clear hr0_0 hc0_0
 have HR0_3:=am_ hr0_3
 have HC0_3:=am_ hc0_3
 clear hr0_3 hc0_3
 have HB:=h0_ w
 have H:((impl_LogOk.f k l0_0 a0_1 a0_2).bind fun t602=>(if t602=true then (if (l0_3.length:Int) > 60000 then (impl_StoreOk.j0 k true l0_0 a0_1 a0_2 l0_3 a0_4) else ((impl_inRange.f a0_4 0 (l0_3.length:Int)).bind fun t3=>(impl_StoreOk.j0 k (!t3) l0_0 a0_1 a0_2 l0_3 a0_4))) else (impl_StoreOk.j0 k true l0_0 a0_1 a0_2 l0_3 a0_4)))=some r:=h
 clear h
 have HC2:=am_ H
 clear H
 go_enter Tryz.func29,Tryz.ntmps29
 go_upto_region 1 with (first|((with_reducible refine gd_ 1 ?_);(try (refine gate_guard (by rfl) ?_;dsimp only));refine bx_ 1 41 #[.slice A0_0 l0_0.length c0_0,.int .i64 a0_1,.string a0_2,.slice A0_3 l0_3.length c0_3,.int .i64 a0_4] (hx_ HB ?_);clear HB;intro gb1 w3 BK1 GW1 HB;have GE1:=GW1))
 (try simp only [Act.put,List.setIfInBounds_toArray,List.set_cons_zero,List.set_cons_succ])
 go_cut [27] (fun v27 wc=>∃ (kq:Nat) (x27_1:Bool),v27 = .bool x27_1∧Aside0 (impl_StoreOk.j0 kq x27_1 l0_0 a0_1 a0_2 l0_3 a0_4=some r)∧Aside0 (kq≤k)∧Aside0 (wc.heap[gb1]?=some (.cells #[(.slice A0_0 l0_0.length c0_0),.int .i64 a0_1,.string a0_2,(.slice A0_3 l0_3.length c0_3),.int .i64 a0_4] 41 (0,0)))∧Aside0 (Below w.heap.size w wc))
 case first =>
  have H:=HC2.out
  clear HC2
  replace H:=bi_ H;obtain ⟨t602,A4,H⟩:=H
  replace H:=itb_ H;obtain ⟨rfl,H⟩|⟨rfl,H⟩:=H
  ·replace H:=it_ H;obtain ⟨c6,H⟩|⟨c6,H⟩:=H
   ·have c6b0:decide (60000 < (l0_3.length:Int))=true:=decide_eq_true c6
    have c6b1:decide (60000 < l0_3.length)=true:=decide_eq_true (by omega)
    clear c6
    (first | rw [c6b0]|(simp only [i64_w,i32_w];rw [c6b0])|rw [c6b1]|skip)
    have H':=am_ H
    clear H
    have hz7:=cz5_ BK1
    go_wp2_with (first|((with_reducible refine gq_ 62 11 ?_);refine gc_ 11 Tryz.func62 (impl_LogOk.calls k _ _ l0_0 a0_1 a0_2 true _ (cb_ HR0_0 HB) HC0_0.out A4.out) ?_;rintro e w8 ⟨rfl,hb⟩;refine ⟨_,rfl,?_⟩;replace BK1:=kl_ BK1 hb;replace HB:=ss_ HB hb;clear hb;have hz9:=cz5_ BK1))
    go_meet
    case rel => exact ⟨_,(true),e1_,H',⟨le_⟩,⟨kb_ BK1.out⟩,⟨bw_ HB⟩⟩
   ·have c6b0:decide (60000 < (l0_3.length:Int))=false:=decide_eq_false c6
    have c6b1:decide (60000 < l0_3.length)=false:=decide_eq_false (by omega)
    clear c6
    (first | rw [c6b0]|(simp only [i64_w,i32_w];rw [c6b0])|rw [c6b1]|skip)
    replace H:=bi_ H;obtain ⟨t3,A10,H⟩:=H
    have H':=am_ H
    clear H
    have hz11:=cz5_ BK1
    go_wp2_with (first|((with_reducible refine gq_ 62 11 ?_);refine gc_ 11 Tryz.func62 (impl_LogOk.calls k _ _ l0_0 a0_1 a0_2 true _ (cb_ HR0_0 HB) HC0_0.out A4.out) ?_;rintro e w12 ⟨rfl,hb⟩;refine ⟨_,rfl,?_⟩;replace BK1:=kl_ BK1 hb;replace HB:=ss_ HB hb;clear hb;have hz13:=cz5_ BK1)|(go_at_call 63;(with_reducible refine (impl_inRange.calls a0_4 0 (l0_3.length:Int) t3 _ A10.out).mono ?_);rintro e w' ⟨rfl,⟨nd,rfl⟩⟩))
    go_meet
    case rel => exact ⟨_,(!t3),e1_,H',⟨le_⟩,⟨kb_ BK1.out⟩,⟨bw_ HB⟩⟩
  ·have H':=am_ H
   clear H
   have hz14:=cz5_ BK1
   go_wp2_with (first|((with_reducible refine gq_ 62 11 ?_);refine gc_ 11 Tryz.func62 (impl_LogOk.calls k _ _ l0_0 a0_1 a0_2 false _ (cb_ HR0_0 HB) HC0_0.out A4.out) ?_;rintro e w15 ⟨rfl,hb⟩;refine ⟨_,rfl,?_⟩;replace BK1:=kl_ BK1 hb;replace HB:=ss_ HB hb;clear hb))
   go_meet
   case rel => exact ⟨_,(true),e1_,H',⟨le_⟩,⟨kb_ BK1.out⟩,⟨bw_ HB⟩⟩
 case rest =>
  clear HC2
  obtain ⟨kq,x27_1,rfl,HA,HJ1,BK1,HB⟩:=hcut
  cases kq with
  | zero=>exact absurd HA.out (by simp [impl_StoreOk.j0])
  | succ kj1 =>
   have H:=HA.out
   clear HA
   simp only [impl_StoreOk.j0] at H
   replace H:=itb_ H;obtain ⟨rfl,H⟩|⟨rfl,H⟩:=H
   ·obtain rfl:=Option.some.inj H
    go_wp2
    go_ret
    exact ⟨e2_,bw_ HB⟩
   ·have H' := am_ H
    clear H
    go_wp2
    go_loopg [3,4] kj1 (fun kq v3 v4 w'=>∃ (x3_2:List ByteArray) (x4_2:Int),v4 = .int .i64 x4_2∧Aside0 (impl_StoreOk.l0 kq x3_2 x4_2 l0_0 a0_1 a0_2 l0_3 a0_4=some r)∧Aside0 (kq≤kj1)∧Aside0 (Kd.R Kd.string 9 w' w.heap.size (fun _=>True) v3 x3_2)∧Aside0 (w'.heap[gb1]?=some (.cells #[(.slice A0_0 l0_0.length c0_0),.int .i64 a0_1,.string a0_2,(.slice A0_3 l0_3.length c0_3),.int .i64 a0_4] 41 (0,0)))∧Aside0 (Below w.heap.size w w'))
    case atStart => exact ⟨(([]:List ByteArray)),(0),e1_,H',⟨Nat.le_refl _⟩,⟨nil_⟩,⟨kb_ BK1.out⟩,⟨bw_ HB⟩⟩
    case round =>
     clear H'
     try clear c2
     try clear p2
     try clear c5
     try clear c6
     try clear c6b0
     try clear c6b1
     try clear hz11
     try clear hz13
     try clear hz14
     try clear hz7
     try clear hz9
     obtain ⟨x3_2,x4_2,rfl,HA,HK2,HO_3,BK1,HB⟩:=hrel
     cases gk with
     | zero=>exact absurd HA.out (by simp [impl_StoreOk.l0])
     | succ k2 =>
      have H:=HA.out
      clear HA
      simp only [impl_StoreOk.l0] at H
      replace H:=itd_ H;obtain ⟨c17b0,H⟩|⟨c17b0,H⟩:=H
      ·replace H:=bi_ H;obtain ⟨⟨t5,t6,t7,t10,t11⟩,A18,H⟩:=H
       dsimp only at H
       replace H:=ip_ H;obtain ⟨c19,H⟩:=H
       have LMc19:=am_ c19
       clear c19
       obtain ⟨y13,Ny13,H⟩:=sb_ (x3_2 ++ t7) H
       replace H:=itb_ H;obtain ⟨rfl,H⟩|⟨rfl,H⟩:=H
       ·replace H:=bi_ H;obtain ⟨⟨t16,t17⟩,A21,H⟩:=H
        dsimp only at H
        replace H:=it_ H;obtain ⟨c22,H⟩|⟨c22,H⟩:=H
        ·have c22b0:(!(t5 == t16) || (!(t6.toList == t17.toList)))=true:=c22
         clear c22
         obtain rfl:=Option.some.inj H
         have hz23:=cz5_ BK1
         try go_wp2_with (first|((with_reducible refine gq_ 64 37 ?_);refine gc_ 37 Tryz.func64 (impl_GetCommit.calls k2 _ _ l0_3 x4_2 t5 t6 t7 t10 true _ (cb_ HR0_3 HB) HC0_3.out A18.out) ?_;rintro e w24 ⟨v8,rfl,ho0,hb⟩;refine ⟨_,rfl,?_⟩;have HO9:=am_ (Kd.R_lower (Kd.R_new' ho0 (lt_ HO_3)) (sz_ HB));replace HO_3:=re_ HO_3 ho0 hb;replace BK1:=kl_ BK1 hb;replace HB:=ss_ HB hb;clear hb ho0)|((with_reducible refine gd_ 5 ?_);(try (refine gate_guard (by rfl) ?_;dsimp only));refine x37_ 5 ?_;intro gb12 hg w25 hbox hb;replace HO_3:=rb_ HO_3 hb;replace HO9:=rb_ HO9 hb;have BK12:=am_ hbox;have GW12:=gg_ hg HB;have GE12:=GW12;replace HB:=ss_ HB hb;have NB1_12:=nla_ hg BK1;have NB12_1:=nga_ hg BK1;replace BK1:=kl_ BK1 hb;clear hb hbox hg;have hnb26:=NB12_1.out;have hnc26:=NB1_12.out;have hz27:=cz2_ BK12;obtain ⟨Ao29,co29,eo29⟩:=Kd.R_slice HO9.out;subst eo29)|((with_reducible refine gate_builtin (b:=.append) (xs:=#[.tmp 42,.tmp 43]) rfl ?_);(try (refine gate_guard (by rfl) ?_;dsimp only));at_builtin;refine Kd.R_append_rows Kd.string (w0:=w) w.heap.size rfl (.tmp 42) (.tmp 43) 22 9 (.string ⟨#[]⟩) 16 rfl Tryz.underlying22 info9 rfl (by decide) (by omega) u3 x3_2 t7 _ _ _ (fun k_=>some k_ ≠ (.slice Ao29 t7.length co29:Value).ownBlock) (fun _=>False) rfl rfl ?aO ?aR (fun _ _ h=>h) (fun _ h=>h.elim) ?aF ?aB ?aS ?aL ?_;(case aR=>exact chf_ HO9 BK12);(case aB=>exact (bw_ HB));(case aF=>exact (fun k_ hk=>Kd.fresh' (lf_ HO9 BK12) k_ hk));(case aO=>exact (kr_ (Kd.R_mono (Kd.R_far (p:=⟨gb12,1,none⟩) (Kd.R_far (p:=⟨gb12,0,none⟩) (Kd.R_types HO_3.out BK12.out (by decide)) (fun _ hk=>hk.2) (.int .i64 t5)) (fun _ hk=>hk.2) (.string t6)) (fun _ hk=>hk.1.2))));(case aS=>exact (sz_ HB));(case aL=>have:=LMc19.out;omega);intro v14 w28 ho hb hg hat;rw [← Ny13.out] at ho;replace BK1:=kgp_ BK1 HO_3 hg;replace HO9:=am_ (Kd.R_after (ok:=(fun _=>True)) (kr_ (Kd.R_mono (Kd.R_far (p:=⟨gb12,1,none⟩) (Kd.R_far (p:=⟨gb12,0,none⟩) (Kd.R_types HO9.out BK12.out (by decide)) (fun _ hk=>hk.2) (.int .i64 t5)) (fun _ hk=>hk.2) (.string t6)) (fun _ hk=>⟨trivial,hk.1.2⟩))) hg hat);replace BK12:=kgp_ BK12 HO_3 hg;replace HB:=am_ hb;have HO15:=am_ ho;clear HO_3;clear ho hb hg hat))
         replace HO9:=am_ (Kd.R_drew HO9.out)
         replace HO15:=am_ (Kd.R_drew HO15.out)
         replace BK1:=bd_ BK1
         replace BK12:=bd_ BK12
         replace HB:=hd_ HB
         obtain ⟨Ao31,co31,eo31⟩:=Kd.R_slice HO15.out
         subst eo31
         refine sw_ 8 (fun w'=>w'.cell? ⟨gb12,0,none⟩=some (.int .i64 t5)∧w'.cell? ⟨gb12,1,none⟩=some (.string t6)) [] impl_StoreOk.tab8 impl_StoreOk.bits8 ⟨bc0_ BK12.out,bc1_ BK12.out⟩ (fun hHeld HT_ HW_=>?_)
         generalize w28.drew=w30 at HO9 HO15 BK1 BK12 HB hHeld ⊢
         refine pt_ 0 45 1 ?_
         refine pt_ 1 46 3 ?_
         refine pt_ 2 47 7 ?_
         refine pt_ 4 49 23 ?_
         refine tt_ 3 48 31 ?_
         refine oz_ 5 50 8 63 (fun K hK=>?_)
         refine gf_ Tryz.func65 (impl_HeadOf.calls k2 _ _ y13 t16 t17 _ (ch_ HO15) (cl_ HO15) A21.out) ?_
         rintro e w32 ⟨rfl,hb⟩
         refine ⟨_,rfl,?_⟩
         replace HO9:=rb_ HO9 hb
         replace HO15:=rb_ HO15 hb
         replace BK1:=kl_ BK1 hb
         replace BK12:=kl_ BK12 hb
         replace HB:=ss_ HB hb
         clear hb
         refine hK.out _ _ ⟨bc0_ BK12.out,bc1_ BK12.out⟩ (fun hHeld=>?_)
         clear hK K
         refine no_ 50 ?_
         refine pt_ 6 51 127 ?_
         refine pt_ 7 52 255 ?_
         refine dn_ ?_
         try go_wp2
         go_ret
         exact ⟨e2_,bw_ HB⟩
        ·have c22b0:(!(t5 == t16) || (!(t6.toList == t17.toList)))=false:=by simpa using c22
         clear c22
         have H':=am_ H
         clear H
         have hz33:=cz5_ BK1
         try go_wp2_with (first|((with_reducible refine gq_ 64 37 ?_);refine gc_ 37 Tryz.func64 (impl_GetCommit.calls k2 _ _ l0_3 x4_2 t5 t6 t7 t10 true _ (cb_ HR0_3 HB) HC0_3.out A18.out) ?_;rintro e w34 ⟨v8,rfl,ho0,hb⟩;refine ⟨_,rfl,?_⟩;have HO9:=am_ (Kd.R_lower (Kd.R_new' ho0 (lt_ HO_3)) (sz_ HB));replace HO_3:=re_ HO_3 ho0 hb;replace BK1:=kl_ BK1 hb;replace HB:=ss_ HB hb;clear hb ho0)|((with_reducible refine gd_ 5 ?_);(try (refine gate_guard (by rfl) ?_;dsimp only));refine x37_ 5 ?_;intro gb12 hg w35 hbox hb;replace HO_3:=rb_ HO_3 hb;replace HO9:=rb_ HO9 hb;have BK12:=am_ hbox;have GW12:=gg_ hg HB;have GE12:=GW12;replace HB:=ss_ HB hb;have NB1_12:=nla_ hg BK1;have NB12_1:=nga_ hg BK1;replace BK1:=kl_ BK1 hb;clear hb hbox hg;have hnb36:=NB12_1.out;have hnc36:=NB1_12.out;have hz37:=cz2_ BK12;obtain ⟨Ao39,co39,eo39⟩:=Kd.R_slice HO9.out;subst eo39)|((with_reducible refine gate_builtin (b:=.append) (xs:=#[.tmp 42,.tmp 43]) rfl ?_);(try (refine gate_guard (by rfl) ?_;dsimp only));at_builtin;refine Kd.R_append_rows Kd.string (w0:=w) w.heap.size rfl (.tmp 42) (.tmp 43) 22 9 (.string ⟨#[]⟩) 16 rfl Tryz.underlying22 info9 rfl (by decide) (by omega) u3 x3_2 t7 _ _ _ (fun k_=>some k_ ≠ (.slice Ao39 t7.length co39:Value).ownBlock) (fun _=>False) rfl rfl ?aO ?aR (fun _ _ h=>h) (fun _ h=>h.elim) ?aF ?aB ?aS ?aL ?_;(case aR=>exact chf_ HO9 BK12);(case aB=>exact (bw_ HB));(case aF=>exact (fun k_ hk=>Kd.fresh' (lf_ HO9 BK12) k_ hk));(case aO=>exact (kr_ (Kd.R_mono (Kd.R_far (p:=⟨gb12,1,none⟩) (Kd.R_far (p:=⟨gb12,0,none⟩) (Kd.R_types HO_3.out BK12.out (by decide)) (fun _ hk=>hk.2) (.int .i64 t5)) (fun _ hk=>hk.2) (.string t6)) (fun _ hk=>hk.1.2))));(case aS=>exact (sz_ HB));(case aL=>have:=LMc19.out;omega);intro v14 w38 ho hb hg hat;rw [← Ny13.out] at ho;replace BK1:=kgp_ BK1 HO_3 hg;replace HO9:=am_ (Kd.R_after (ok:=(fun _=>True)) (kr_ (Kd.R_mono (Kd.R_far (p:=⟨gb12,1,none⟩) (Kd.R_far (p:=⟨gb12,0,none⟩) (Kd.R_types HO9.out BK12.out (by decide)) (fun _ hk=>hk.2) (.int .i64 t5)) (fun _ hk=>hk.2) (.string t6)) (fun _ hk=>⟨trivial,hk.1.2⟩))) hg hat);replace BK12:=kgp_ BK12 HO_3 hg;replace HB:=am_ hb;have HO15:=am_ ho;clear HO_3;clear ho hb hg hat))
         replace HO9:=am_ (Kd.R_drew HO9.out)
         replace HO15:=am_ (Kd.R_drew HO15.out)
         replace BK1:=bd_ BK1
         replace BK12:=bd_ BK12
         replace HB:=hd_ HB
         obtain ⟨Ao41,co41,eo41⟩:=Kd.R_slice HO15.out
         subst eo41
         refine sw_ 8 (fun w'=>w'.cell? ⟨gb12,0,none⟩=some (.int .i64 t5)∧w'.cell? ⟨gb12,1,none⟩=some (.string t6)) [] impl_StoreOk.tab8 impl_StoreOk.bits8 ⟨bc0_ BK12.out,bc1_ BK12.out⟩ (fun hHeld HT_ HW_=>?_)
         generalize w38.drew=w40 at HO9 HO15 BK1 BK12 HB hHeld ⊢
         refine pt_ 0 45 1 ?_
         refine pt_ 1 46 3 ?_
         refine pt_ 2 47 7 ?_
         refine pt_ 4 49 23 ?_
         refine tt_ 3 48 31 ?_
         refine oz_ 5 50 8 63 (fun K hK=>?_)
         refine gf_ Tryz.func65 (impl_HeadOf.calls k2 _ _ y13 t16 t17 _ (ch_ HO15) (cl_ HO15) A21.out) ?_
         rintro e w42 ⟨rfl,hb⟩
         refine ⟨_,rfl,?_⟩
         replace HO9:=rb_ HO9 hb
         replace HO15:=rb_ HO15 hb
         replace BK1:=kl_ BK1 hb
         replace BK12:=kl_ BK12 hb
         replace HB:=ss_ HB hb
         clear hb
         refine hK.out _ _ ⟨bc0_ BK12.out,bc1_ BK12.out⟩ (fun hHeld=>?_)
         clear hK K
         refine no_ 50 ?_
         refine pt_ 6 51 127 ?_
         refine pt_ 7 52 255 ?_
         refine dn_ ?_
         try go_wp2
         go_roundg k2
         case measure => have:=HJ1.out;have:=HK2.out;omega
         case rel => exact ⟨(y13),(t10),e1_,H',⟨by have:=HJ1.out;have:=HK2.out;omega⟩,⟨km_ HO15⟩,⟨kb_ BK1.out⟩,⟨bw_ HB⟩⟩
       ·obtain rfl:=Option.some.inj H
        have hz43:=cz5_ BK1
        try go_wp2_with (first|((with_reducible refine gq_ 64 37 ?_);refine gc_ 37 Tryz.func64 (impl_GetCommit.calls k2 _ _ l0_3 x4_2 t5 t6 t7 t10 false _ (cb_ HR0_3 HB) HC0_3.out A18.out) ?_;rintro e w44 ⟨v8,rfl,ho0,hb⟩;refine ⟨_,rfl,?_⟩;have HO9:=am_ (Kd.R_lower (Kd.R_new' ho0 (lt_ HO_3)) (sz_ HB));replace HO_3:=re_ HO_3 ho0 hb;replace BK1:=kl_ BK1 hb;replace HB:=ss_ HB hb;clear hb ho0)|((with_reducible refine gd_ 5 ?_);(try (refine gate_guard (by rfl) ?_;dsimp only));refine x37_ 5 ?_;intro gb12 hg w45 hbox hb;replace HO_3:=rb_ HO_3 hb;replace HO9:=rb_ HO9 hb;have BK12:=am_ hbox;have GW12:=gg_ hg HB;have GE12:=GW12;replace HB:=ss_ HB hb;have NB1_12:=nla_ hg BK1;have NB12_1:=nga_ hg BK1;replace BK1:=kl_ BK1 hb;clear hb hbox hg;have hnb46:=NB12_1.out;have hnc46:=NB1_12.out;have hz47:=cz2_ BK12;obtain ⟨Ao49,co49,eo49⟩:=Kd.R_slice HO9.out;subst eo49)|((with_reducible refine gate_builtin (b:=.append) (xs:=#[.tmp 42,.tmp 43]) rfl ?_);(try (refine gate_guard (by rfl) ?_;dsimp only));at_builtin;refine Kd.R_append_rows Kd.string (w0:=w) w.heap.size rfl (.tmp 42) (.tmp 43) 22 9 (.string ⟨#[]⟩) 16 rfl Tryz.underlying22 info9 rfl (by decide) (by omega) u3 x3_2 t7 _ _ _ (fun k_=>some k_ ≠ (.slice Ao49 t7.length co49:Value).ownBlock) (fun _=>False) rfl rfl ?aO ?aR (fun _ _ h=>h) (fun _ h=>h.elim) ?aF ?aB ?aS ?aL ?_;(case aR=>exact chf_ HO9 BK12);(case aB=>exact (bw_ HB));(case aF=>exact (fun k_ hk=>Kd.fresh' (lf_ HO9 BK12) k_ hk));(case aO=>exact (kr_ (Kd.R_mono (Kd.R_far (p:=⟨gb12,1,none⟩) (Kd.R_far (p:=⟨gb12,0,none⟩) (Kd.R_types HO_3.out BK12.out (by decide)) (fun _ hk=>hk.2) (.int .i64 t5)) (fun _ hk=>hk.2) (.string t6)) (fun _ hk=>hk.1.2))));(case aS=>exact (sz_ HB));(case aL=>have:=LMc19.out;omega);intro v14 w48 ho hb hg hat;rw [← Ny13.out] at ho;replace BK1:=kgp_ BK1 HO_3 hg;replace HO9:=am_ (Kd.R_after (ok:=(fun _=>True)) (kr_ (Kd.R_mono (Kd.R_far (p:=⟨gb12,1,none⟩) (Kd.R_far (p:=⟨gb12,0,none⟩) (Kd.R_types HO9.out BK12.out (by decide)) (fun _ hk=>hk.2) (.int .i64 t5)) (fun _ hk=>hk.2) (.string t6)) (fun _ hk=>⟨trivial,hk.1.2⟩))) hg hat);replace BK12:=kgp_ BK12 HO_3 hg;replace HB:=am_ hb;have HO15:=am_ ho;clear HO_3;clear ho hb hg hat))
        replace BK1:=bd_ BK1
        replace HB:=hd_ HB
        refine sw_ 8 (fun w'=>True) [] impl_StoreOk.tab8 impl_StoreOk.bits8 trivial (fun hHeld HT_ HW_=>?_)
        generalize w48.drew=w50 at HO9 HO15 BK1 BK12 HB hHeld ⊢
        refine pt_ 0 45 1 ?_
        refine pt_ 1 46 3 ?_
        refine pt_ 2 47 7 ?_
        refine ut_ 3 48 15 ?_
        refine ut_ 4 49 31 ?_
        refine ut_ 5 50 63 ?_
        refine ut_ 6 51 127 ?_
        refine pt_ 7 52 255 ?_
        refine dn_ ?_
        try go_wp2
        go_ret
        exact ⟨e2_,bw_ HB⟩
      ·replace H:=bi_ H;obtain ⟨t4,A51,H⟩:=H
       obtain rfl:=Option.some.inj H
       have hz52:=cz5_ BK1
       obtain ⟨Ao53,co53,eo53⟩:=Kd.R_slice HO_3.out
       subst eo53
       go_wp2_with (first|((with_reducible refine gq_ 66 58 ?_);refine gc_ 58 Tryz.func66 (slices_Equal_string_string.calls k2 _ _ x3_2 _ _ l0_0 t4 _ (ch_ HO_3) (cl_ HO_3) (cb_ HR0_0 HB) HC0_0.out A51.out) ?_;rintro e w' ⟨rfl,⟨nd,rfl⟩⟩;refine ⟨_,rfl,?_⟩))
       go_ret
       exact ⟨e2_,bw_ HB⟩
end
section
attribute [local go_sem high] eqA37
def impl_extend.j0:Nat->List (S37)->List ByteArray->Bool->List ByteArray->Int->ByteArray->Int->ByteArray->Option (List ByteArray × Int × ByteArray × Int)
 | 0,_,_,_,_,_,_,_,_=>none
 | k+1,x1,x3,x11,x2000,x2001,x2002,x3000,x3001=>if x11=true then ((impl_copyLog.f x2000 x2001 x2002).bind fun bt5=>(some (bt5.1,bt5.2.1,bt5.2.2,1))) else ((impl_IsSigned.f k x1 x3000 x3001).bind fun t10=>(if t10=true then (if (x3.length:Int)=0 then ((impl_copyLog.f x2000 x2001 x2002).bind fun bt11=>(some (bt11.1,bt11.2.1,bt11.2.2,3))) else ((slices_Concat_string_string.f k (([x2000,x3]:List (List ByteArray)))).bind fun t24=>((impl_HeadOf.f k t24).bind fun bt27=>(if (!(bt27.1 == x3000) || (!(bt27.2.toList == x3001.toList)))=true then ((impl_copyLog.f x2000 x2001 x2002).bind fun bt29=>(some (bt29.1,bt29.2.1,bt29.2.2,4))) else (some (t24,x3000,x3001,0)))))) else ((impl_copyLog.f x2000 x2001 x2002).bind fun bt16=>(some (bt16.1,bt16.2.1,bt16.2.2,2)))))
def impl_extend.f (k:Nat) (l0_0:List ByteArray) (a0_1:Int) (a0_2:ByteArray) (l1:List (S37)) (a2_0:Int) (a2_1:ByteArray) (l3:List ByteArray):Option (List ByteArray × Int × ByteArray × Int):=(impl_HeadOk.f a2_0 a2_1).bind fun t4=>(if t4=true then (impl_extend.j0 k l1 l3 (a2_0 != (wrap64 ((l0_0.length:Int) + (l3.length:Int)))) l0_0 a0_1 a0_2 a2_0 a2_1) else (impl_extend.j0 k l1 l3 true l0_0 a0_1 a0_2 a2_0 a2_1))
theorem impl_extend.calls (k:Nat) (P0_0_:Nat->Prop) (A0_0:Option Addr) (c0_0:Nat) (l0_0:List ByteArray) (a0_1:Int) (a0_2:ByteArray) (A1:Option Addr) (c1:Nat) (l1:List (S37)) (a2_0:Int) (a2_1:ByteArray) (P3_:Nat->Prop) (A3:Option Addr) (c3:Nat) (l3:List ByteArray) (r1:List ByteArray) (r2:Int) (r3:ByteArray) (r4:Int) (w:World) (hs0_0:Kd.V Kd.string 9 w w.heap.size (fun k_=>P0_0_ k_) (.slice A0_0 l0_0.length c0_0) l0_0) (hr1:Kd.C k37 w A1 l1.length l1) (hc1:l1.length≤c1) (hs3:Kd.V Kd.string 9 w w.heap.size (fun k_=>P3_ k_) (.slice A3 l3.length c3) l3) (h:impl_extend.f k l0_0 a0_1 a0_2 l1 a2_0 a2_1 l3=some (r1,r2,r3,r4)) :
  Calls Tryz.prog 146 #[.agg #[.slice A0_0 l0_0.length c0_0,.int .i64 a0_1,.string a0_2],.slice A1 l1.length c1,.agg #[.int .i64 a2_0,.string a2_1],.slice A3 l3.length c3] w fun e w'=>∃ v0_:Value,e = .returned (.tuple #[.agg #[v0_,.int .i64 r2,.string r3],.int .i64 r4])∧Kd.R Kd.string 9 w' w.heap.size (fun k_=>(w.heap.size≤k_)) v0_ r1∧Below w.heap.size w w':=by
 have hu39:=Tryz.underlying39
 have hu37:=Tryz.underlying37
 have HO0_0:=am_ (show Kd.V Kd.string 9 w w.heap.size (fun k_=>((P0_0_ k_∨P3_ k_)∨w.heap.size≤k_)) (.slice A0_0 l0_0.length c0_0) l0_0 from Kd.V_mono hs0_0 (fun k_ hk=>.inl (.inl hk)))
 have HR1:=am_ hr1
 have HC1:=am_ hc1
 clear hr1 hc1
 have HO3:=am_ (show Kd.V Kd.string 9 w w.heap.size (fun k_=>((P0_0_ k_∨P3_ k_)∨w.heap.size≤k_)) (.slice A3 l3.length c3) l3 from Kd.V_mono hs3 (fun k_ hk=>.inl (.inr hk)))
 have HB:=h0_ w
 have H:((impl_HeadOk.f a2_0 a2_1).bind fun t4=>(if t4=true then (impl_extend.j0 k l1 l3 (a2_0 != (wrap64 ((l0_0.length:Int) + (l3.length:Int)))) l0_0 a0_1 a0_2 a2_0 a2_1) else (impl_extend.j0 k l1 l3 true l0_0 a0_1 a0_2 a2_0 a2_1)))=some (r1,r2,r3,r4):=h
 clear h
 have HC5:=am_ H
 clear H
 go_enter Tryz.func146,Tryz.ntmps146
 go_upto_region 1 with (first|((with_reducible refine gd_ 4 ?_);(try (refine gate_guard (by rfl) ?_;dsimp only));refine bx_ 4 39 #[.slice A0_0 l0_0.length c0_0,.int .i64 a0_1,.string a0_2] ?_;intro gb1 hg w6 hbox hb;replace HO0_0:=am_ (Kd.V_below (Kd.V_elderB (kv_ HO0_0.out) gb1 (Nat.le_of_eq hg.symm)) hb);replace HO3:=am_ (Kd.V_below (Kd.V_elderB (kv_ HO3.out) gb1 (Nat.le_of_eq hg.symm)) hb);have BK1:=am_ hbox;have GW1:=gg_ hg HB;have GE1:=GW1;replace HB:=ss_ HB hb;clear hb hbox hg)|((with_reducible refine gd_ 6 ?_);(try (refine gate_guard (by rfl) ?_;dsimp only));refine bx_ 6 37 #[.int .i64 a2_0,.string a2_1] ?_;intro gb2 hg w7 hbox hb;replace HO0_0:=am_ (Kd.V_below (Kd.V_elderB (kv_ HO0_0.out) gb2 (Nat.le_of_eq hg.symm)) hb);replace HO3:=am_ (Kd.V_below (Kd.V_elderB (kv_ HO3.out) gb2 (Nat.le_of_eq hg.symm)) hb);have BK2:=am_ hbox;have GW2:=gg_ hg HB;have GE2:=GW2;replace HB:=ss_ HB hb;have NB1_2:=nla_ hg BK1;have NB2_1:=nga_ hg BK1;replace BK1:=kl_ BK1 hb;clear hb hbox hg)|((with_reducible refine gd_ 8 ?_);(try (refine gate_guard (by rfl) ?_;dsimp only));refine x39_ 8 ?_;intro gb3 hg w8 hbox hb;replace HO0_0:=am_ (Kd.V_below (Kd.V_elderB (kv_ HO0_0.out) gb3 (Nat.le_of_eq hg.symm)) hb);replace HO3:=am_ (Kd.V_below (Kd.V_elderB (kv_ HO3.out) gb3 (Nat.le_of_eq hg.symm)) hb);have BK3:=am_ hbox;have GW3:=gg_ hg HB;have GE3:=GW3;replace HB:=ss_ HB hb;have NB1_3:=nla_ hg BK1;have NB3_1:=nga_ hg BK1;replace BK1:=kl_ BK1 hb;have NB2_3:=nla_ hg BK2;have NB3_2:=nga_ hg BK2;replace BK2:=kl_ BK2 hb;clear hb hbox hg))
 (try simp only [Act.put,List.setIfInBounds_toArray,List.set_cons_zero,List.set_cons_succ])
 go_cut [11] (fun v11 wc=>∃ (kq:Nat) (x11_4:Bool),v11 = .bool x11_4∧Aside0 (impl_extend.j0 kq l1 l3 x11_4 l0_0 a0_1 a0_2 a2_0 a2_1=some (r1,r2,r3,r4))∧Aside0 (kq≤k)∧Aside0 (Kd.V Kd.string 9 wc w.heap.size (fun k_=>((P0_0_ k_∨P3_ k_)∨w.heap.size≤k_)∧k_ ≠ gb1∧k_ ≠ gb2∧k_ ≠ gb3) (.slice A3 l3.length c3) l3)∧Aside0 (Kd.V Kd.string 9 wc w.heap.size (fun k_=>((P0_0_ k_∨P3_ k_)∨w.heap.size≤k_)∧k_ ≠ gb1∧k_ ≠ gb2∧k_ ≠ gb3) (.slice A0_0 l0_0.length c0_0) l0_0)∧Aside0 (wc.heap[gb1]?=some (.cells #[(.slice A0_0 l0_0.length c0_0),.int .i64 a0_1,.string a0_2] 39 (0,0)))∧Aside0 (wc.heap[gb2]?=some (.cells #[.int .i64 a2_0,.string a2_1] 37 (0,0)))∧Aside0 (wc.heap[gb3]?=some (.cells #[(.slice none 0 0),.int .i64 0,.string (⟨#[]⟩:ByteArray)] 39 (0,0)))∧Aside0 (Below w.heap.size w wc))
 case first =>
  have H:=HC5.out
  clear HC5
  replace H:=bi_ H;obtain ⟨t4,A9,H⟩:=H
  replace H:=itb_ H;obtain ⟨rfl,H⟩|⟨rfl,H⟩:=H
  ·have H':=am_ H
   clear H
   have hnb11:=NB2_1.out
   have hnc11:=NB1_2.out
   have hnb12:=NB2_3.out
   have hnc12:=NB3_2.out
   have hz13:=cz2_ BK2
   go_wp2_with (first|((with_reducible refine gq_ 60 13 ?_);refine gc_ 13 Tryz.func60 (impl_HeadOk.calls a2_0 a2_1 true _ A9.out) ?_;rintro e w14 ⟨rfl,hb⟩;refine ⟨_,rfl,?_⟩;replace HO0_0:=am_ (Kd.V_below (kv_ HO0_0.out) hb);replace HO3:=am_ (Kd.V_below (kv_ HO3.out) hb);replace BK1:=kl_ BK1 hb;replace BK2:=kl_ BK2 hb;replace BK3:=kl_ BK3 hb;replace HB:=ss_ HB hb;clear hb;have hz15:=cz2_ BK2;have hnb16:=NB1_3.out;have hnc16:=NB3_1.out;have hz17:=cz3_ BK1))
   go_meet
   case rel => exact ⟨_,((a2_0 != (wrap64 ((l0_0.length:Int) + (l3.length:Int))))),e1_,H',⟨le_⟩,⟨kv_ (Kd.V_mono HO3.out (fun _ hk=>⟨hk.1.1.1,⟨hk.1.1.2,⟨hk.1.2,hk.2⟩⟩⟩))⟩,⟨kv_ (Kd.V_mono HO0_0.out (fun _ hk=>⟨hk.1.1.1,⟨hk.1.1.2,⟨hk.1.2,hk.2⟩⟩⟩))⟩,⟨kb_ BK1.out⟩,⟨kb_ BK2.out⟩,⟨kb_ BK3.out⟩,⟨bw_ HB⟩⟩
  ·have H':=am_ H
   clear H
   have hnb18:=NB2_1.out
   have hnc18:=NB1_2.out
   have hnb19:=NB2_3.out
   have hnc19:=NB3_2.out
   have hz20:=cz2_ BK2
   go_wp2_with (first|((with_reducible refine gq_ 60 13 ?_);refine gc_ 13 Tryz.func60 (impl_HeadOk.calls a2_0 a2_1 false _ A9.out) ?_;rintro e w21 ⟨rfl,hb⟩;refine ⟨_,rfl,?_⟩;replace HO0_0:=am_ (Kd.V_below (kv_ HO0_0.out) hb);replace HO3:=am_ (Kd.V_below (kv_ HO3.out) hb);replace BK1:=kl_ BK1 hb;replace BK2:=kl_ BK2 hb;replace BK3:=kl_ BK3 hb;replace HB:=ss_ HB hb;clear hb))
   go_meet
   case rel => exact ⟨_,(true),e1_,H',⟨le_⟩,⟨kv_ (Kd.V_mono HO3.out (fun _ hk=>⟨hk.1.1.1,⟨hk.1.1.2,⟨hk.1.2,hk.2⟩⟩⟩))⟩,⟨kv_ (Kd.V_mono HO0_0.out (fun _ hk=>⟨hk.1.1.1,⟨hk.1.1.2,⟨hk.1.2,hk.2⟩⟩⟩))⟩,⟨kb_ BK1.out⟩,⟨kb_ BK2.out⟩,⟨kb_ BK3.out⟩,⟨bw_ HB⟩⟩
 case rest =>
  clear HC5
  try clear c3
  obtain ⟨kq,x11_4,rfl,HA,HJ4,HO_3,HO_2000,BK1,BK2,BK3,HB⟩:=hcut
  cases kq with
  | zero=>exact absurd HA.out (by simp [impl_extend.j0])
  | succ kj4 =>
   have H:=HA.out
   clear HA
   simp only [impl_extend.j0] at H
   replace H:=itb_ H;obtain ⟨rfl,H⟩|⟨rfl,H⟩:=H
   ·replace H:=bi_ H;obtain ⟨⟨t5,t8,t9⟩,A23,H⟩:=H
    dsimp only at H
    replace H:=so4_ H;obtain ⟨rfl,rfl,rfl,rfl⟩:=H
    have hnb24:=NB1_2.out
    have hnc24:=NB2_1.out
    have hnb25:=NB1_3.out
    have hnc25:=NB3_1.out
    have hz26:=cz3_ BK1
    go_wp2_with (first|((with_reducible refine gq_ 121 27 ?_);refine gc_ 27 Tryz.func121 (impl_copyLog.calls _ _ l0_0 a0_1 a0_2 t5 t8 t9 _ (cr_ (Kd.V_reads' HO_2000.out).2.2) ((Kd.V_reads' HO_2000.out).2.1) A23.out) ?_;rintro e w27 ⟨v6,rfl,ho0,hb⟩;refine ⟨_,rfl,?_⟩;replace HO_3:=am_ (Kd.V_elder' (kv_ HO_3.out) (Kd.R_base ho0) hb);replace HO_2000:=am_ (Kd.V_elder' (kv_ HO_2000.out) (Kd.R_base ho0) hb);have HO7:=am_ (Kd.R_lower (Kd.R_newM (M:=fun k_=>(w.heap.size≤k_)) ho0 (sz_ HB) (fun k_ h_=>h_)) (sz_ HB));replace BK1:=kl_ BK1 hb;replace BK2:=kl_ BK2 hb;replace BK3:=kl_ BK3 hb;replace HB:=ss_ HB hb;clear hb ho0;obtain ⟨Ao28,co28,eo28⟩:=Kd.R_slice HO7.out;subst eo28;have hnb29:=NB3_2.out;have hnc29:=NB2_3.out;have hz30:=cz3_ BK3))
    refine bodyPost_ret (rct_ gb3 39 #[.slice Ao28 t5.length co28,.int .i64 t8,.string t9] BK3 Tryz.underlying39) rfl ?_
    exact ⟨_,e2_,kfm_ HO7 BK3,bw_ HB⟩
   ·replace H:=bi_ H;obtain ⟨t10,A31,H⟩:=H
    replace H:=itb_ H;obtain ⟨rfl,H⟩|⟨rfl,H⟩:=H
    ·replace H:=it_ H;obtain ⟨c33,H⟩|⟨c33,H⟩:=H
     ·have c33b0:((l3.length:Int) == 0)=true:=beq_iff_eq.mpr c33
      have c33b1:((l3.length:Int) != 0)=false:=bne_eq_false_iff_eq.mpr c33
      clear c33
      replace H:=bi_ H;obtain ⟨⟨t11,t14,t15⟩,A34,H⟩:=H
      dsimp only at H
      replace H:=so4_ H;obtain ⟨rfl,rfl,rfl,rfl⟩:=H
      have hnb35:=NB2_1.out
      have hnc35:=NB1_2.out
      have hnb36:=NB2_3.out
      have hnc36:=NB3_2.out
      have hz37:=cz2_ BK2
      go_wp2_with (first|((with_reducible refine gq_ 96 31 ?_);refine gc_ 31 Tryz.func96 (impl_IsSigned.calls kj4 _ _ l1 a2_0 a2_1 true _ (cb_ HR1 HB) HC1.out A31.out) ?_;rintro e w38 ⟨rfl,hb⟩;refine ⟨_,rfl,?_⟩;replace HO_3:=am_ (Kd.V_below (kv_ HO_3.out) hb);replace HO_2000:=am_ (Kd.V_below (kv_ HO_2000.out) hb);replace BK1:=kl_ BK1 hb;replace BK2:=kl_ BK2 hb;replace BK3:=kl_ BK3 hb;replace HB:=ss_ HB hb;clear hb;have hnb39:=NB1_3.out;have hnc39:=NB3_1.out;have hz40:=cz3_ BK1)|((with_reducible refine gq_ 121 40 ?_);refine gc_ 40 Tryz.func121 (impl_copyLog.calls _ _ l0_0 a0_1 a0_2 t11 t14 t15 _ (cr_ (Kd.V_reads' HO_2000.out).2.2) ((Kd.V_reads' HO_2000.out).2.1) A34.out) ?_;rintro e w41 ⟨v12,rfl,ho0,hb⟩;refine ⟨_,rfl,?_⟩;replace HO_3:=am_ (Kd.V_elder' (kv_ HO_3.out) (Kd.R_base ho0) hb);replace HO_2000:=am_ (Kd.V_elder' (kv_ HO_2000.out) (Kd.R_base ho0) hb);have HO13:=am_ (Kd.R_lower (Kd.R_newM (M:=fun k_=>(w.heap.size≤k_)) ho0 (sz_ HB) (fun k_ h_=>h_)) (sz_ HB));replace BK1:=kl_ BK1 hb;replace BK2:=kl_ BK2 hb;replace BK3:=kl_ BK3 hb;replace HB:=ss_ HB hb;clear hb ho0;obtain ⟨Ao42,co42,eo42⟩:=Kd.R_slice HO13.out;subst eo42;have hz43:=cz3_ BK3))
      refine bodyPost_ret (rct_ gb3 39 #[.slice Ao42 t11.length co42,.int .i64 t14,.string t15] BK3 Tryz.underlying39) rfl ?_
      exact ⟨_,e2_,kfm_ HO13 BK3,bw_ HB⟩
     ·have c33b0:((l3.length:Int) == 0)=false:=beq_eq_false_iff_ne.mpr c33
      have c33b1:((l3.length:Int) != 0)=true:=bne_iff_ne.mpr c33
      have c33b2:¬ (l3=[]):=fun h_=>c33 (by rw [h_];rfl)
      obtain ⟨y21,hy21⟩:∃ y_:List (List ByteArray),y_=(([l0_0,l3]:List (List ByteArray))):=⟨_,rfl⟩
      replace H:((slices_Concat_string_string.f kj4 y21).bind fun t24=>((impl_HeadOf.f kj4 t24).bind fun bt27=>(if (!(bt27.1 == a2_0) || (!(bt27.2.toList == a2_1.toList)))=true then ((impl_copyLog.f l0_0 a0_1 a0_2).bind fun bt29=>(some (bt29.1,bt29.2.1,bt29.2.2,4))) else (some (t24,a2_0,a2_1,0)))))=some (r1,r2,r3,r4):=yh_ hy21 H
      have Ny21:=am_ hy21
      clear hy21
      replace H:=bi_ H;obtain ⟨t24,A44,H⟩:=H
      replace H:=bi_ H;obtain ⟨⟨t27,t28⟩,A45,H⟩:=H
      dsimp only at H
      replace H:=it_ H;obtain ⟨c46,H⟩|⟨c46,H⟩:=H
      ·have c46b0:(!(t27 == a2_0) || (!(t28.toList == a2_1.toList)))=true:=c46
       clear c46
       replace H:=bi_ H;obtain ⟨⟨t29,t32,t33⟩,A47,H⟩:=H
       dsimp only at H
       replace H:=so4_ H;obtain ⟨rfl,rfl,rfl,rfl⟩:=H
       have hnb48:=NB2_1.out
       have hnc48:=NB1_2.out
       have hnb49:=NB2_3.out
       have hnc49:=NB3_2.out
       have hz50:=cz2_ BK2
       try go_wp2_with (first|((with_reducible refine gq_ 96 31 ?_);refine gc_ 31 Tryz.func96 (impl_IsSigned.calls kj4 _ _ l1 a2_0 a2_1 true _ (cb_ HR1 HB) HC1.out A31.out) ?_;rintro e w51 ⟨rfl,hb⟩;refine ⟨_,rfl,?_⟩;replace HO_3:=am_ (Kd.V_below (kv_ HO_3.out) hb);replace HO_2000:=am_ (Kd.V_below (kv_ HO_2000.out) hb);replace BK1:=kl_ BK1 hb;replace BK2:=kl_ BK2 hb;replace BK3:=kl_ BK3 hb;replace HB:=ss_ HB hb;clear hb;have hnb52:=NB1_3.out;have hnc52:=NB3_1.out;have hz53:=cz3_ BK1)|((with_reducible refine gd_ 44 ?_);(try (refine gate_guard (by rfl) ?_;dsimp only));refine Kd.N_lit (Kd.slice 9 Kd.string) _ 22 ?hg (N':=44) ?hd (xs:=([l0_0,l3]:List (List ByteArray))) (inner:=[.slice A0_0 l0_0.length c0_0,.slice A3 l3.length c3]) (ok:=(fun k_=>((P0_0_ k_∨P3_ k_)∨w.heap.size≤k_)∧k_ ≠ gb1∧k_ ≠ gb2∧k_ ≠ gb3)) (okp:=(fun k_=>((P0_0_ k_∨P3_ k_)∨w.heap.size≤k_)∧k_ ≠ gb1∧k_ ≠ gb2∧k_ ≠ gb3)) ?hr ?hp (fun _ hk=>hk) ((show ∀ k_,w51.heap.size≤k_->(fun k_=>((P0_0_ k_∨P3_ k_)∨w.heap.size≤k_)∧k_ ≠ gb1∧k_ ≠ gb2∧k_ ≠ gb3) k_ from fun k_ hk=>⟨(.inr (Nat.le_trans (sz_ HB) hk)),Kd.freshB (kb_ BK1.out) k_ hk,Kd.freshB (kb_ BK2.out) k_ hk,Kd.freshB (kb_ BK3.out) k_ hk⟩) _ (Nat.le_refl _)) (Below.refl _ _) (Nat.le_refl _) (by simp) ?_;(case hd=>rfl);(case hg=>rfl);(case hr=>first|(go_simp;done)|(go_simp;rfl));(case hp=>exact (Reps.one (show Kd.FK (Kd.slice 9 Kd.string) _ _ l0_0 [.slice A0_0 l0_0.length c0_0] from (Kd.FK_slice_mk (Kd.V_reads' (Kd.V_mono (ok':=(fun k_=>((P0_0_ k_∨P3_ k_)∨w.heap.size≤k_)∧k_ ≠ gb1∧k_ ≠ gb2∧k_ ≠ gb3)) (HO_2000.out) (fun k_ hk=>⟨hk.1,⟨hk.2.1,⟨hk.2.2.1,hk.2.2.2⟩⟩⟩))).2.1 (Kd.V_F (Kd.V_mono (ok':=(fun k_=>((P0_0_ k_∨P3_ k_)∨w.heap.size≤k_)∧k_ ≠ gb1∧k_ ≠ gb2∧k_ ≠ gb3)) (HO_2000.out) (fun k_ hk=>⟨hk.1,⟨hk.2.1,⟨hk.2.2.1,hk.2.2.2⟩⟩⟩))))) (Reps.one (show Kd.FK (Kd.slice 9 Kd.string) _ _ l3 [.slice A3 l3.length c3] from (Kd.FK_slice_mk (Kd.V_reads' (Kd.V_mono (ok':=(fun k_=>((P0_0_ k_∨P3_ k_)∨w.heap.size≤k_)∧k_ ≠ gb1∧k_ ≠ gb2∧k_ ≠ gb3)) (HO_3.out) (fun k_ hk=>⟨hk.1,⟨hk.2.1,⟨hk.2.2.1,hk.2.2.2⟩⟩⟩))).2.1 (Kd.V_F (Kd.V_mono (ok':=(fun k_=>((P0_0_ k_∨P3_ k_)∨w.heap.size≤k_)∧k_ ≠ gb1∧k_ ≠ gb2∧k_ ≠ gb3)) (HO_3.out) (fun k_ hk=>⟨hk.1,⟨hk.2.1,⟨hk.2.2.1,hk.2.2.2⟩⟩⟩))))) (Reps.none _ _))));intro v22 w54 ho55 hb hg_ hnew_;clear hg_ hnew_;(first|rw [← Ny21.out] at ho55|(simp only [Int.reduceToNat] at ho55;rw [← Ny21.out] at ho55));replace HO_3:=am_ (Kd.V_elder' (kv_ HO_3.out) (Kd.N_base ho55) hb);replace HO_2000:=am_ (Kd.V_elder' (kv_ HO_2000.out) (Kd.N_base ho55) hb);have HO23:=am_ (Kd.N_lower ho55 (sz_ HB));replace BK1:=kl_ BK1 hb;replace BK2:=kl_ BK2 hb;replace BK3:=kl_ BK3 hb;replace HB:=ss_ HB hb;clear hb ho55;obtain ⟨Ao56,co56,eo56⟩:=Kd.N_slice HO23.out;subst eo56)|((with_reducible refine gq_ 165 45 ?_);refine gc_ 45 Tryz.func165 (slices_Concat_string_string.calls kj4 _ _ y21 t24 _ (cr_ (Kd.N_reads' HO23.out).2.2) ((Kd.N_reads' HO23.out).2.1) A44.out) ?_;rintro e w57 ⟨v25,rfl,ho0,hb⟩;refine ⟨_,rfl,?_⟩;replace HO_3:=am_ (Kd.V_elder' (kv_ HO_3.out) (Kd.R_base ho0) hb);replace HO_2000:=am_ (Kd.V_elder' (kv_ HO_2000.out) (Kd.R_base ho0) hb);replace HO23:=am_ (Kd.N_elder' (by (with_reducible repeat (first|apply Kd.N_alloc|apply Kd.N_drewN|apply Kd.N_drew));exact HO23.out) (Kd.R_base ho0) hb);have HO26:=am_ (Kd.R_lower (Kd.R_newM (M:=fun k_=>(w.heap.size≤k_)) ho0 (sz_ HB) (fun k_ h_=>h_)) (sz_ HB));replace BK1:=kl_ BK1 hb;replace BK2:=kl_ BK2 hb;replace BK3:=kl_ BK3 hb;replace HB:=ss_ HB hb;clear hb ho0))
       replace HO_3:=am_ (Kd.V_drew HO_3.out)
       replace HO_2000:=am_ (Kd.V_drew HO_2000.out)
       replace HO23:=am_ (Kd.N_drew HO23.out)
       replace HO26:=am_ (Kd.R_drew HO26.out)
       replace BK1:=bd_ BK1
       replace BK2:=bd_ BK2
       replace BK3:=bd_ BK3
       replace HB:=hd_ HB
       obtain ⟨Ao59,co59,eo59⟩:=Kd.R_slice HO26.out
       subst eo59
       refine start_ (n:=4) (S:=fun w'=>w'.cell? ⟨gb2,0,none⟩=some (.int .i64 a2_0)∧w'.cell? ⟨gb2,1,none⟩=some (.string a2_1)) (ds:=[]) (lz_ 4 0) (by kernel_rfl) rfl rfl ⟨bc0_ BK2.out,bc1_ BK2.out⟩ (fun hHeld=>?_)
       generalize w57.drew=w58 at HO_3 HO_2000 HO23 HO26 BK1 BK2 BK3 HB hHeld ⊢
       refine pk_ 0 46 1 ?_
       refine tk_ 2 48 5 ?_
       refine one_ (i:=1) (N:=some 47) (lz_ 4 7) rfl rfl (by kernel_rfl) (by decide) (fun K hK=>?_)
       refine gf_ Tryz.func65 (impl_HeadOf.calls kj4 _ _ t24 t27 t28 _ (ch_ HO26) (cl_ HO26) A45.out) ?_
       rintro e w60 ⟨rfl,hb⟩
       refine ⟨_,rfl,?_⟩
       replace HO_3:=am_ (Kd.V_below (kv_ HO_3.out) hb)
       replace HO_2000:=am_ (Kd.V_below (kv_ HO_2000.out) hb)
       replace HO23:=am_ (Kd.N_below (by (with_reducible repeat (first|apply Kd.N_alloc|apply Kd.N_drewN|apply Kd.N_drew));exact HO23.out) hb)
       replace HO26:=rb_ HO26 hb
       replace BK1:=kl_ BK1 hb
       replace BK2:=kl_ BK2 hb
       replace BK3:=kl_ BK3 hb
       replace HB:=ss_ HB hb
       clear hb
       refine hK.out _ _ ⟨bc0_ BK2.out,bc1_ BK2.out⟩ (fun hHeld=>?_)
       clear hK K
       refine no_ 47 ?_
       refine pk_ 3 49 15 ?_
       refine done_ (by kernel_rfl) ?_
       have hz61:=cz3_ BK1
       try go_wp2_with (first|((with_reducible refine gq_ 121 51 ?_);refine gc_ 51 Tryz.func121 (impl_copyLog.calls _ _ l0_0 a0_1 a0_2 t29 t32 t33 _ (cr_ (Kd.V_reads' HO_2000.out).2.2) ((Kd.V_reads' HO_2000.out).2.1) A47.out) ?_;rintro e w62 ⟨v30,rfl,ho0,hb⟩;refine ⟨_,rfl,?_⟩;replace HO_3:=am_ (Kd.V_elder' (kv_ HO_3.out) (Kd.R_base ho0) hb);replace HO_2000:=am_ (Kd.V_elder' (kv_ HO_2000.out) (Kd.R_base ho0) hb);replace HO23:=am_ (Kd.N_elder' (by (with_reducible repeat (first|apply Kd.N_alloc|apply Kd.N_drewN|apply Kd.N_drew));exact HO23.out) (Kd.R_base ho0) hb);have HO31:=am_ (Kd.R_lower (Kd.R_new' (Kd.R_newM (M:=fun k_=>(w.heap.size≤k_)) ho0 (sz_ HB) (fun k_ h_=>h_)) (lt_ HO26)) (sz_ HB));replace HO26:=re_ HO26 ho0 hb;replace BK1:=kl_ BK1 hb;replace BK2:=kl_ BK2 hb;replace BK3:=kl_ BK3 hb;replace HB:=ss_ HB hb;clear hb ho0;obtain ⟨Ao63,co63,eo63⟩:=Kd.R_slice HO31.out;subst eo63;have hz64:=cz3_ BK3))
       refine bodyPost_ret (rct_ gb3 39 #[.slice Ao63 t29.length co63,.int .i64 t32,.string t33] BK3 Tryz.underlying39) rfl ?_
       exact ⟨_,e2_,kr_ (Kd.R_mono (Kd.R_far (p:=⟨gb3,2,none⟩) (Kd.R_far (p:=⟨gb3,1,none⟩) (Kd.R_far (p:=⟨gb3,0,none⟩) (Kd.R_types HO31.out BK3.out (by decide)) (fun _ hk=>hk.2) (.slice Ao63 t29.length co63)) (fun _ hk=>hk.2) (.int .i64 t32)) (fun _ hk=>hk.2) (.string t33)) (fun _ hk=>hk.1.1.1)),bw_ HB⟩
      ·have c46b0:(!(t27 == a2_0) || (!(t28.toList == a2_1.toList)))=false:=by simpa using c46
       clear c46
       replace H:=so4_ H;obtain ⟨rfl,rfl,rfl,rfl⟩:=H
       have hnb65:=NB2_1.out
       have hnc65:=NB1_2.out
       have hnb66:=NB2_3.out
       have hnc66:=NB3_2.out
       have hz67:=cz2_ BK2
       try go_wp2_with (first|((with_reducible refine gq_ 96 31 ?_);refine gc_ 31 Tryz.func96 (impl_IsSigned.calls kj4 _ _ l1 a2_0 a2_1 true _ (cb_ HR1 HB) HC1.out A31.out) ?_;rintro e w68 ⟨rfl,hb⟩;refine ⟨_,rfl,?_⟩;replace HO_3:=am_ (Kd.V_below (kv_ HO_3.out) hb);replace HO_2000:=am_ (Kd.V_below (kv_ HO_2000.out) hb);replace BK1:=kl_ BK1 hb;replace BK2:=kl_ BK2 hb;replace BK3:=kl_ BK3 hb;replace HB:=ss_ HB hb;clear hb;have hnb69:=NB1_3.out;have hnc69:=NB3_1.out;have hz70:=cz3_ BK1)|((with_reducible refine gd_ 44 ?_);(try (refine gate_guard (by rfl) ?_;dsimp only));refine Kd.N_lit (Kd.slice 9 Kd.string) _ 22 ?hg (N':=44) ?hd (xs:=([l0_0,l3]:List (List ByteArray))) (inner:=[.slice A0_0 l0_0.length c0_0,.slice A3 l3.length c3]) (ok:=(fun k_=>((P0_0_ k_∨P3_ k_)∨w.heap.size≤k_)∧k_ ≠ gb1∧k_ ≠ gb2∧k_ ≠ gb3)) (okp:=(fun k_=>((P0_0_ k_∨P3_ k_)∨w.heap.size≤k_)∧k_ ≠ gb1∧k_ ≠ gb2∧k_ ≠ gb3)) ?hr ?hp (fun _ hk=>hk) ((show ∀ k_,w68.heap.size≤k_->(fun k_=>((P0_0_ k_∨P3_ k_)∨w.heap.size≤k_)∧k_ ≠ gb1∧k_ ≠ gb2∧k_ ≠ gb3) k_ from fun k_ hk=>⟨(.inr (Nat.le_trans (sz_ HB) hk)),Kd.freshB (kb_ BK1.out) k_ hk,Kd.freshB (kb_ BK2.out) k_ hk,Kd.freshB (kb_ BK3.out) k_ hk⟩) _ (Nat.le_refl _)) (Below.refl _ _) (Nat.le_refl _) (by simp) ?_;(case hd=>rfl);(case hg=>rfl);(case hr=>first|(go_simp;done)|(go_simp;rfl));(case hp=>exact (Reps.one (show Kd.FK (Kd.slice 9 Kd.string) _ _ l0_0 [.slice A0_0 l0_0.length c0_0] from (Kd.FK_slice_mk (Kd.V_reads' (Kd.V_mono (ok':=(fun k_=>((P0_0_ k_∨P3_ k_)∨w.heap.size≤k_)∧k_ ≠ gb1∧k_ ≠ gb2∧k_ ≠ gb3)) (HO_2000.out) (fun k_ hk=>⟨hk.1,⟨hk.2.1,⟨hk.2.2.1,hk.2.2.2⟩⟩⟩))).2.1 (Kd.V_F (Kd.V_mono (ok':=(fun k_=>((P0_0_ k_∨P3_ k_)∨w.heap.size≤k_)∧k_ ≠ gb1∧k_ ≠ gb2∧k_ ≠ gb3)) (HO_2000.out) (fun k_ hk=>⟨hk.1,⟨hk.2.1,⟨hk.2.2.1,hk.2.2.2⟩⟩⟩))))) (Reps.one (show Kd.FK (Kd.slice 9 Kd.string) _ _ l3 [.slice A3 l3.length c3] from (Kd.FK_slice_mk (Kd.V_reads' (Kd.V_mono (ok':=(fun k_=>((P0_0_ k_∨P3_ k_)∨w.heap.size≤k_)∧k_ ≠ gb1∧k_ ≠ gb2∧k_ ≠ gb3)) (HO_3.out) (fun k_ hk=>⟨hk.1,⟨hk.2.1,⟨hk.2.2.1,hk.2.2.2⟩⟩⟩))).2.1 (Kd.V_F (Kd.V_mono (ok':=(fun k_=>((P0_0_ k_∨P3_ k_)∨w.heap.size≤k_)∧k_ ≠ gb1∧k_ ≠ gb2∧k_ ≠ gb3)) (HO_3.out) (fun k_ hk=>⟨hk.1,⟨hk.2.1,⟨hk.2.2.1,hk.2.2.2⟩⟩⟩))))) (Reps.none _ _))));intro v22 w71 ho72 hb hg_ hnew_;clear hg_ hnew_;(first|rw [← Ny21.out] at ho72|(simp only [Int.reduceToNat] at ho72;rw [← Ny21.out] at ho72));replace HO_3:=am_ (Kd.V_elder' (kv_ HO_3.out) (Kd.N_base ho72) hb);replace HO_2000:=am_ (Kd.V_elder' (kv_ HO_2000.out) (Kd.N_base ho72) hb);have HO23:=am_ (Kd.N_lower ho72 (sz_ HB));replace BK1:=kl_ BK1 hb;replace BK2:=kl_ BK2 hb;replace BK3:=kl_ BK3 hb;replace HB:=ss_ HB hb;clear hb ho72;obtain ⟨Ao73,co73,eo73⟩:=Kd.N_slice HO23.out;subst eo73)|((with_reducible refine gq_ 165 45 ?_);refine gc_ 45 Tryz.func165 (slices_Concat_string_string.calls kj4 _ _ y21 t24 _ (cr_ (Kd.N_reads' HO23.out).2.2) ((Kd.N_reads' HO23.out).2.1) A44.out) ?_;rintro e w74 ⟨v25,rfl,ho0,hb⟩;refine ⟨_,rfl,?_⟩;replace HO_3:=am_ (Kd.V_elder' (kv_ HO_3.out) (Kd.R_base ho0) hb);replace HO_2000:=am_ (Kd.V_elder' (kv_ HO_2000.out) (Kd.R_base ho0) hb);replace HO23:=am_ (Kd.N_elder' (by (with_reducible repeat (first|apply Kd.N_alloc|apply Kd.N_drewN|apply Kd.N_drew));exact HO23.out) (Kd.R_base ho0) hb);have HO26:=am_ (Kd.R_lower (Kd.R_newM (M:=fun k_=>(w.heap.size≤k_)) ho0 (sz_ HB) (fun k_ h_=>h_)) (sz_ HB));replace BK1:=kl_ BK1 hb;replace BK2:=kl_ BK2 hb;replace BK3:=kl_ BK3 hb;replace HB:=ss_ HB hb;clear hb ho0))
       replace HO_2000:=am_ (Kd.V_drew HO_2000.out)
       replace HO26:=am_ (Kd.R_drew HO26.out)
       replace BK1:=bd_ BK1
       replace BK2:=bd_ BK2
       replace BK3:=bd_ BK3
       replace HB:=hd_ HB
       obtain ⟨Ao76,co76,eo76⟩:=Kd.R_slice HO26.out
       subst eo76
       refine start_ (n:=4) (S:=fun w'=>w'.cell? ⟨gb2,0,none⟩=some (.int .i64 a2_0)∧w'.cell? ⟨gb2,1,none⟩=some (.string a2_1)) (ds:=[]) (lz_ 4 0) (by kernel_rfl) rfl rfl ⟨bc0_ BK2.out,bc1_ BK2.out⟩ (fun hHeld=>?_)
       generalize w74.drew=w75 at HO_3 HO_2000 HO23 HO26 BK1 BK2 BK3 HB hHeld ⊢
       refine pk_ 0 46 1 ?_
       refine tk_ 2 48 5 ?_
       refine one_ (i:=1) (N:=some 47) (lz_ 4 7) rfl rfl (by kernel_rfl) (by decide) (fun K hK=>?_)
       refine gf_ Tryz.func65 (impl_HeadOf.calls kj4 _ _ t24 t27 t28 _ (ch_ HO26) (cl_ HO26) A45.out) ?_
       rintro e w77 ⟨rfl,hb⟩
       refine ⟨_,rfl,?_⟩
       replace HO_2000:=am_ (Kd.V_below (kv_ HO_2000.out) hb)
       replace HO26:=rb_ HO26 hb
       replace BK1:=kl_ BK1 hb
       replace BK2:=kl_ BK2 hb
       replace BK3:=kl_ BK3 hb
       replace HB:=ss_ HB hb
       clear hb
       refine hK.out _ _ ⟨bc0_ BK2.out,bc1_ BK2.out⟩ (fun hHeld=>?_)
       clear hK K
       refine no_ 47 ?_
       refine pk_ 3 49 15 ?_
       refine done_ (by kernel_rfl) ?_
       have hz78:=cz2_ BK2
       have hz79:=cz3_ BK3
       try go_wp2
       refine bodyPost_ret (rct_ gb3 39 #[.slice Ao76 t24.length co76,.int .i64 a2_0,.string a2_1] BK3 Tryz.underlying39) rfl ?_
       exact ⟨_,e2_,kfm_ HO26 BK3,bw_ HB⟩
    ·replace H:=bi_ H;obtain ⟨⟨t16,t19,t20⟩,A80,H⟩:=H
     dsimp only at H
     replace H:=so4_ H;obtain ⟨rfl,rfl,rfl,rfl⟩:=H
     have hnb81:=NB2_1.out
     have hnc81:=NB1_2.out
     have hnb82:=NB2_3.out
     have hnc82:=NB3_2.out
     have hz83:=cz2_ BK2
     go_wp2_with (first|((with_reducible refine gq_ 96 31 ?_);refine gc_ 31 Tryz.func96 (impl_IsSigned.calls kj4 _ _ l1 a2_0 a2_1 false _ (cb_ HR1 HB) HC1.out A31.out) ?_;rintro e w84 ⟨rfl,hb⟩;refine ⟨_,rfl,?_⟩;replace HO_2000:=am_ (Kd.V_below (kv_ HO_2000.out) hb);replace BK1:=kl_ BK1 hb;replace BK3:=kl_ BK3 hb;replace HB:=ss_ HB hb;clear hb;have hnb85:=NB1_3.out;have hnc85:=NB3_1.out;have hz86:=cz3_ BK1)|((with_reducible refine gq_ 121 34 ?_);refine gc_ 34 Tryz.func121 (impl_copyLog.calls _ _ l0_0 a0_1 a0_2 t16 t19 t20 _ (cr_ (Kd.V_reads' HO_2000.out).2.2) ((Kd.V_reads' HO_2000.out).2.1) A80.out) ?_;rintro e w87 ⟨v17,rfl,ho0,hb⟩;refine ⟨_,rfl,?_⟩;replace HO_2000:=am_ (Kd.V_elder' (kv_ HO_2000.out) (Kd.R_base ho0) hb);have HO18:=am_ (Kd.R_lower (Kd.R_newM (M:=fun k_=>(w.heap.size≤k_)) ho0 (sz_ HB) (fun k_ h_=>h_)) (sz_ HB));replace BK1:=kl_ BK1 hb;replace BK3:=kl_ BK3 hb;replace HB:=ss_ HB hb;clear hb ho0;obtain ⟨Ao88,co88,eo88⟩:=Kd.R_slice HO18.out;subst eo88;have hz89:=cz3_ BK3))
     refine bodyPost_ret (rct_ gb3 39 #[.slice Ao88 t16.length co88,.int .i64 t19,.string t20] BK3 Tryz.underlying39) rfl ?_
     exact ⟨_,e2_,kfm_ HO18 BK3,bw_ HB⟩
end
def impl_LogNew.f (k:Nat)  : Option (List ByteArray × Int × ByteArray):=(impl_HeadOf.f k ([]:List ByteArray)).bind fun bt2=>(some (([]:List ByteArray),bt2.1,bt2.2))
theorem impl_LogNew.calls (k:Nat)  (r1:List ByteArray) (r2:Int) (r3:ByteArray) (w:World) (h:impl_LogNew.f k  = some (r1,r2,r3)) :
  Calls Tryz.prog 145 #[] w fun e w'=>∃ v0_:Value,e = .returned (.agg #[v0_,.int .i64 r2,.string r3])∧Kd.R Kd.string 9 w' w.heap.size (fun _=>True) v0_ r1∧Below w.heap.size w w':=by
 have hu39:=Tryz.underlying39
 have HB:=h0_ w
 have H:((impl_HeadOf.f k ([]:List ByteArray)).bind fun bt2=>(some (([]:List ByteArray),bt2.1,bt2.2)))=some (r1,r2,r3):=h
 clear h
 replace H:=bi_ H;obtain ⟨⟨t602,t3⟩,A1,H⟩:=H
 dsimp only at H
 replace H:=so3_ H;obtain ⟨rfl,rfl,rfl⟩:=H
 go_enter Tryz.func145,Tryz.ntmps145
 go_wp2_with (first|((with_reducible refine gd_ 0 ?_);refine x39_ 0 (hx_ HB ?_);clear HB;intro gb1 w2 BK1 GW1 HB;have GE1:=GW1)|((with_reducible refine gk_ 65 ?_);refine gl_ 1 Tryz.func65 #[.slice none 0 0] ?_;(refine (impl_HeadOf.calls k _ _ ([]:List ByteArray) t602 t3 _ ?side1 ?side2 A1.out).mono ?_);(case side1=>exact Kd.C_nil _ _);(case side2=>exact Nat.le_refl _);rintro e w3 ⟨rfl,hb⟩;refine ⟨_,rfl,?_⟩;replace BK1:=kl_ BK1 hb;replace HB:=ss_ HB hb;clear hb;have hz4:=cz3_ BK1))
 refine bodyPost_ret (rcr_ gb1 39 #[.slice none 0 0,.int .i64 t602,.string t3] BK1 Tryz.underlying39) rfl ?_
 exact ⟨_,e2_,nil_,bw_ HB⟩
def impl_StoreNew.f (k:Nat)  : Option (List ByteArray × Int × ByteArray × List Int × Int):=(impl_LogNew.f k).bind fun bt2=>(some (bt2.1,bt2.2.1,bt2.2.2,([]:List Int),0))
theorem impl_StoreNew.calls (k:Nat)  (r1:List ByteArray) (r2:Int) (r3:ByteArray) (r4:List Int) (r5:Int) (w:World) (h:impl_StoreNew.f k  = some (r1,r2,r3,r4,r5)) :
  Calls Tryz.prog 123 #[] w fun e w'=>∃ v0_ v3_:Value,e = .returned (.agg #[v0_,.int .i64 r2,.string r3,v3_,.int .i64 r5])∧Kd.R Kd.string 9 w' w.heap.size (fun _=>True) v0_ r1∧Kd.R (Kd.int .u8) 5 w' w.heap.size (fun _=>True) v3_ r4∧Below w.heap.size w w':=by
 have hu41:=Tryz.underlying41
 have HB:=h0_ w
 have H:((impl_LogNew.f k).bind fun bt2=>(some (bt2.1,bt2.2.1,bt2.2.2,([]:List Int),0)))=some (r1,r2,r3,r4,r5):=h
 clear h
 replace H:=bi_ H;obtain ⟨⟨t602,t5,t6⟩,A1,H⟩:=H
 dsimp only at H
 replace H:=so5_ H;obtain ⟨rfl,rfl,rfl,rfl,rfl⟩:=H
 go_enter Tryz.func123,Tryz.ntmps123
 go_wp2_with (first|((with_reducible refine gd_ 0 ?_);refine x41_ 0 (hx_ HB ?_);clear HB;intro gb1 w2 BK1 GW1 HB;have GE1:=GW1)|((with_reducible refine gq_ 145 1 ?_);refine gc_ 1 Tryz.func145 (impl_LogNew.calls k  t602 t5 t6 _ A1.out) ?_;rintro e w3 ⟨v3,rfl,ho0,hb⟩;refine ⟨_,rfl,?_⟩;have HO4:=rlo_ ho0 HB;replace BK1:=kl_ BK1 hb;replace HB:=ss_ HB hb;clear hb ho0;obtain ⟨Ao4,co4,eo4⟩:=Kd.R_slice HO4.out;subst eo4;have hz5:=cz5_ BK1))
 refine bodyPost_ret (rcr_ gb1 41 #[.slice Ao4 t602.length co4,.int .i64 t5,.string t6,.slice none 0 0,.int .i64 0] BK1 Tryz.underlying41) rfl ?_
 exact ⟨_,_,e2_,kfm_ HO4 BK1,nil_,bw_ HB⟩
def impl_Store_commit.f (k:Nat) (l:List ByteArray) (n:Int) (s:ByteArray) (b:List Int) (u:Int) (t:List S37) (a:Int) (z:ByteArray) (x:List ByteArray):Option (List ByteArray × Int × ByteArray × List Int × Int) :=
 (impl_PutCommit.f k a z x).bind fun m=>(if wrap64 ((b.length:Int) + (m.length:Int)) > 60000 then some (l,n,s,b,1) else ((impl_extend.f k l n s t a z x).bind fun r=>(if r.2.2.2=0 then (if b.length+m.length < 140737488355328 then some (r.1,r.2.1,r.2.2.1,b ++ m,0) else none) else some (l,n,s,b,r.2.2.2))))
theorem Kd.R_gone {α:Type} {d:Kd α} {e base g:Nat} {W:World} {v:Value} {xs:List α} (h:d.R e W base (fun k=>k ≠ g) v xs) (i:Nat) (y:Value):d.R e (W.setCell ⟨g,i,none⟩ y) base (fun k=>k ≠ g) v xs:=Kd.R_far h (fun _ hk=>hk) y
theorem impl_Store_commit.calls (k g:Nat) (A0:Option Addr) (c0:Nat) (l:List ByteArray) (n:Int) (s:ByteArray) (A3:Option Addr) (c3:Nat) (b:List Int) (u:Int) (A1:Option Addr) (c1:Nat) (t:List S37) (a:Int) (z:ByteArray) (A4:Option Addr) (c4:Nat) (x:List ByteArray) (r1:List ByteArray) (r2:Int) (r3:ByteArray) (r4:List Int) (r5:Int) (w0 w:World)
  (hg:w0.heap.size≤g) (hbk:w.heap[g]?=some (.cells #[.slice A0 l.length c0,.int .i64 n,.string s,.slice A3 b.length c3,.int .i64 u] 41 (0,0)))
  (hO:Kd.R Kd.string 9 w w0.heap.size (fun k_=>k_ ≠ g) (.slice A0 l.length c0) l) (hP:Kd.R (Kd.int .u8) 5 w w0.heap.size (fun k_=>k_ ≠ g) (.slice A3 b.length c3) b)
  (hT:Kd.C k37 w A1 t.length t) (hT1:t.length≤c1) (hX:Kd.C Kd.string w A4 x.length x) (hX1:x.length≤c4) (hB:Below w0.heap.size w0 w) (h:impl_Store_commit.f k l n s b u t a z x=some (r1,r2,r3,r4,r5)) :
  Calls Tryz.prog 124 #[.pointer (some ⟨g,0,none⟩),.slice A1 t.length c1,.agg #[.int .i64 a,.string z],.slice A4 x.length c4] w fun e w'=>e = .returned (.int .i64 r5)∧∃ (A0':Option Addr) (c0':Nat) (A3':Option Addr) (c3':Nat),Kd.R Kd.string 9 w' w0.heap.size (fun k_=>k_ ≠ g) (.slice A0' r1.length c0') r1∧Kd.R (Kd.int .u8) 5 w' w0.heap.size (fun k_=>k_ ≠ g) (.slice A3' r4.length c3') r4∧w'.heap[g]?=some (.cells #[.slice A0' r1.length c0',.int .i64 r2,.string r3,.slice A3' r4.length c3',.int .i64 u] 41 (0,0))∧Below w0.heap.size w0 w'∧Kept w w' (fun k_=>k_=g∨some k_=(Value.slice A3 b.length c3).ownBlock):=by
 have hu37:=Tryz.underlying41
 have hu31:=Tryz.underlying39
 have hu28:=Tryz.underlying37
 have HB:=am_ hB
 have GE:=am_ hg
 have BK:=am_ hbk
 have HO:=am_ hO
 have HP:=am_ hP
 have HT:=am_ hT
 have HT1:=am_ hT1
 have HX:=am_ hX
 have HX1:=am_ hX1
 have HKP:=am_ (Kept.refl w (fun k_=>k_=g∨some k_=(Value.slice A3 b.length c3).ownBlock))
 unfold impl_Store_commit.f at h
 replace h:=bi_ h;obtain ⟨m,AM,h⟩:=h
 clear hB hg hbk hO hP hT hT1 hX hX1
 have hz:=cz5_ BK
 replace h:=it_ h;obtain ⟨d1,h⟩|⟨d1,h⟩:=h
 ·have d1b:decide (60000 < wrap64 ((b.length:Int) + (m.length:Int)))=true:=decide_eq_true d1
  have d1c:decide (60000 < IntKind.i64.wrap ((b.length:Int) + (m.length:Int)))=true:=by rw [i64_w];exact d1b
  clear d1
  replace h:=so5_ h;obtain ⟨rfl,rfl,rfl,rfl,rfl⟩:=h
  go_enter Tryz.func124,Tryz.ntmps124
  go_wp2_with (first|((with_reducible refine gd_ 6 ?_);refine bx_ 6 37 #[.int .i64 a,.string z] ?_;intro gh hg_ w1 hbox hb;have BH:=am_ hbox;have GH:=gg_ hg_ HB;have NGH:=nla_ hg_ BK;replace HB:=ss_ HB hb;replace BK:=kl_ BK hb;replace HO:=rb_ HO hb;replace HP:=rb_ HP hb;replace HT:=am_ (Kd.C_below HT.out hb);replace HX:=am_ (Kd.C_below HX.out hb);replace HKP:=am_ (Kept.below HKP.out hb);clear hb hbox hg_ hz;have hz:=cz5_ BK;have hy:=cz2_ BH;have hn:=NGH.out;have hn2:=NGH.out.symm)|((with_reducible refine gq_ 102 14 ?_);refine gc_ 14 Tryz.func102 (impl_PutCommit.calls k a z _ _ x m _ HX.out HX1.out AM.out) ?_;rintro e w2 ⟨v1,rfl,ho,hb⟩;refine ⟨_,rfl,?_⟩;have HM:=rlo_ ho HB;replace HB:=ss_ HB hb;replace BK:=kl_ BK hb;replace HO:=rb_ HO hb;replace HP:=rb_ HP hb;replace HT:=am_ (Kd.C_below HT.out hb);replace HX:=am_ (Kd.C_below HX.out hb);replace HKP:=am_ (Kept.below HKP.out hb);replace BH:=kl_ BH hb;clear hb ho hz hy;have hz:=cz5_ BK;have hy:=cz2_ BH;obtain ⟨Am,cm,em⟩:=Kd.R_slice HM.out;subst em))
  go_ret
  exact ⟨rfl,A0,c0,A3,c3,HO.out,HP.out,BK.out,HB.out,HKP.out⟩
 ·have d1b:decide (60000 < wrap64 ((b.length:Int) + (m.length:Int)))=false:=decide_eq_false d1
  have d1c:decide (60000 < IntKind.i64.wrap ((b.length:Int) + (m.length:Int)))=false:=by rw [i64_w];exact d1b
  clear d1
  replace h:=bi_ h;obtain ⟨⟨q1,q2,q3,q4⟩,AE,h⟩:=h
  dsimp only at h
  have H:=am_ h
  clear h
  go_enter Tryz.func124,Tryz.ntmps124
  go_wp2_with (first|((with_reducible refine gd_ 6 ?_);refine bx_ 6 37 #[.int .i64 a,.string z] ?_;intro gh hg_ w1 hbox hb;have BH:=am_ hbox;have GH:=gg_ hg_ HB;have NGH:=nla_ hg_ BK;replace HB:=ss_ HB hb;replace BK:=kl_ BK hb;replace HO:=rb_ HO hb;replace HP:=rb_ HP hb;replace HT:=am_ (Kd.C_below HT.out hb);replace HX:=am_ (Kd.C_below HX.out hb);replace HKP:=am_ (Kept.below HKP.out hb);clear hb hbox hg_ hz;have hz:=cz5_ BK;have hy:=cz2_ BH;have hn:=NGH.out;have hn2:=NGH.out.symm)|((with_reducible refine gq_ 102 14 ?_);refine gc_ 14 Tryz.func102 (impl_PutCommit.calls k a z _ _ x m _ HX.out HX1.out AM.out) ?_;rintro e w2 ⟨v1,rfl,ho,hb⟩;refine ⟨_,rfl,?_⟩;have HM:=rlo_ ho HB;replace HB:=ss_ HB hb;replace BK:=kl_ BK hb;replace HO:=rb_ HO hb;replace HP:=rb_ HP hb;replace HT:=am_ (Kd.C_below HT.out hb);replace HX:=am_ (Kd.C_below HX.out hb);replace HKP:=am_ (Kept.below HKP.out hb);replace BH:=kl_ BH hb;clear hb ho hz hy;have hz:=cz5_ BK;have hy:=cz2_ BH;obtain ⟨Am,cm,em⟩:=Kd.R_slice HM.out;subst em))
  clear hz hy hn hn2
  replace BK:=bd_ BK
  replace BH:=bd_ BH
  replace HO:=am_ (Kd.R_drew HO.out)
  replace HP:=am_ (Kd.R_drew HP.out)
  replace HT:=am_ (Kd.C_drew HT.out)
  replace HX:=am_ (Kd.C_drew HX.out)
  replace HM:=am_ (Kd.R_drew HM.out)
  replace HB:=hd_ HB
  replace HKP:=am_ (Kept.drew HKP.out)
  refine start_ (n:=14) (S:=fun w'=>w'.cell? ⟨g,0,none⟩=some (.slice A0 l.length c0)∧w'.cell? ⟨g,1,none⟩=some (.int .i64 n)∧w'.cell? ⟨g,2,none⟩=some (.string s)∧w'.cell? ⟨gh,0,none⟩=some (.int .i64 a)∧w'.cell? ⟨gh,1,none⟩=some (.string z)) (ds:=[]) (lz_ 14 0) (by kernel_rfl) rfl rfl ⟨bc0_ BK.out,bc1_ BK.out,bc2_ BK.out,bc0_ BH.out,bc1_ BH.out⟩ (fun hHeld=>?_)
  generalize w2.drew=w3 at BK BH HO HP HT HX HM HB HKP hHeld ⊢
  refine pk_ 0 25 1 ?_
  refine pk_ 1 26 3 ?_
  refine pk_ 2 27 7 ?_
  refine pk_ 4 29 23 ?_
  refine pk_ 6 31 87 ?_
  refine tk_ 3 28 95 ?_
  refine tk_ 5 30 127 ?_
  refine join_ (σ:=Value × Nat) 2 (lz_ 14 4095) (fun s_=>[(32,.tuple #[.agg #[s_.1,.int .i64 q2,.string q3],.int .i64 q4]),(24,.tuple #[.agg #[s_.1,.int .i64 q2,.string q3],.int .i64 q4]),(33,.agg #[s_.1,.int .i64 q2,.string q3]),(34,.int .i64 q4),(10,.pointer (some ⟨s_.2,0,none⟩))]) (fun s_ w'=>Aside0 (Kd.R Kd.string 9 w' w0.heap.size (fun k_=>k_ ≠ g) s_.1 q1)∧Aside0 (Kd.R Kd.string 9 w' w0.heap.size (fun k_=>k_ ≠ g) (.slice A0 l.length c0) l)∧Aside0 (Kd.R (Kd.int .u8) 5 w' w0.heap.size (fun k_=>k_ ≠ g) (.slice A3 b.length c3) b)∧Aside0 (Kd.R (Kd.int .u8) 5 w' w0.heap.size (fun _=>True) (.slice Am m.length cm) m)∧Aside0 (w'.heap[g]?=some (.cells #[.slice A0 l.length c0,.int .i64 n,.string s,.slice A3 b.length c3,.int .i64 u] 41 (0,0)))∧Aside0 (w'.heap[gh]?=some (.cells #[.int .i64 a,.string z] 37 (0,0)))∧Aside0 (w'.heap[s_.2]?=some (.cells #[.slice none 0 0,.int .i64 0,.string (⟨#[]⟩:ByteArray)] 39 (0,0)))∧Aside0 (w0.heap.size≤s_.2)∧Aside0 (w.heap.size≤s_.2)∧Aside0 (g ≠ s_.2)∧Aside0 (gh ≠ s_.2)∧Aside0 (Below w0.heap.size w0 w')∧Aside0 (Kept w w' (fun k_=>k_=g∨some k_=(Value.slice A3 b.length c3).ownBlock))) ?_ ?_
  rotate_left
  ·intro hJ
   refine two_ (i:=7) (j:=11) (Ni:=some 32) (Nj:=some 10) (lz_ 14 255) (lz_ 14 2175) rfl rfl rfl rfl (by kernel_rfl) (by decide) (by decide) (fun K hK=>?_) (fun K hK=>?_)
   ·skip
    refine gf_ Tryz.func146 (impl_extend.calls k (fun k_=>True) _ _ l n s _ _ t a z (fun k_=>True) _ _ x q1 q2 q3 q4 _ (Kd.V_mk (cl_ HO) (Kd.F_mono (Kd.C_F Kd.heap_string (Kd.R_reads' HO.out).2.2) (fun _ _=>trivial))) HT.out HT1.out (Kd.V_mk HX1.out (Kd.F_mono (Kd.C_F Kd.heap_string HX.out) (fun _ _=>trivial))) AE.out) ?_
    rintro e w4 ⟨v,rfl,ho,hb⟩
    refine ⟨_,rfl,?_⟩
    have HV:=am_ (Kd.R_mono (ok':=fun k_=>k_ ≠ g) (Kd.R_lower ho (sz_ HB)) (fun k_ hk_=>by have:=blk_lt BK.out;omega))
    replace HB:=ss_ HB hb
    replace BK:=kl_ BK hb;replace BH:=kl_ BH hb;replace HO:=rb_ HO hb;replace HP:=rb_ HP hb;replace HT:=am_ (Kd.C_below HT.out hb);replace HX:=am_ (Kd.C_below HX.out hb);replace HM:=rb_ HM hb;replace HKP:=am_ (Kept.below HKP.out hb)
    clear hb ho
    refine hK.out _ _ ⟨bc0_ BK.out,bc1_ BK.out,bc2_ BK.out,bc0_ BH.out,bc1_ BH.out⟩ (fun hHeld=>?_)
    clear hK K
    refine no_ 32 ?_
    refine pk_ 8 24 511 ?_
    refine pk_ 9 33 1023 ?_
    refine pk_ 10 34 2047 ?_
    refine one_ (i:=11) (N:=some 10) (lz_ 14 4095) rfl rfl (by kernel_rfl) (by decide) (fun K hK=>?_)
    refine bz_ 10 39 #[.slice none 0 0,.int .i64 0,.string (⟨#[]⟩:ByteArray)] ?_
    intro gl hg_ w5 hbox hb
    have BL:=am_ hbox
    have GL:=gg_ hg_ HB
    have GLW:=am_ (gz_ hg_ HKP.out.1)
    have NGL:=nla_ hg_ BK
    have NHL:=nla_ hg_ BH
    replace HB:=ss_ HB hb
    replace BK:=kl_ BK hb;replace BH:=kl_ BH hb;replace HO:=rb_ HO hb;replace HP:=rb_ HP hb;replace HT:=am_ (Kd.C_below HT.out hb);replace HX:=am_ (Kd.C_below HX.out hb);replace HM:=rb_ HM hb;replace HKP:=am_ (Kept.below HKP.out hb);replace HV:=rb_ HV hb
    clear hb hbox hg_
    refine hK.out _ _ ⟨bc0_ BK.out,bc1_ BK.out,bc2_ BK.out,bc0_ BH.out,bc1_ BH.out⟩ (fun hHeld=>?_)
    clear hK K
    refine no_ 10 ?_
    exact nj_ (hJ (v,gl) _ ⟨HV,HO,HP,HM,BK,BH,BL,GL,GLW,NGL,NHL,HB,HKP⟩)
   ·skip
    refine bz_ 10 39 #[.slice none 0 0,.int .i64 0,.string (⟨#[]⟩:ByteArray)] ?_
    intro gl hg_ w5 hbox hb
    have BL:=am_ hbox
    have GL:=gg_ hg_ HB
    have GLW:=am_ (gz_ hg_ HKP.out.1)
    have NGL:=nla_ hg_ BK
    have NHL:=nla_ hg_ BH
    replace HB:=ss_ HB hb
    replace BK:=kl_ BK hb;replace BH:=kl_ BH hb;replace HO:=rb_ HO hb;replace HP:=rb_ HP hb;replace HT:=am_ (Kd.C_below HT.out hb);replace HX:=am_ (Kd.C_below HX.out hb);replace HM:=rb_ HM hb;replace HKP:=am_ (Kept.below HKP.out hb)
    clear hb hbox hg_
    refine hK.out _ _ ⟨bc0_ BK.out,bc1_ BK.out,bc2_ BK.out,bc0_ BH.out,bc1_ BH.out⟩ (fun hHeld=>?_)
    clear hK K
    refine no_ 10 ?_
    refine one_ (i:=7) (N:=some 32) (lz_ 14 2303) rfl rfl (by kernel_rfl) (by decide) (fun K hK=>?_)
    refine gf_ Tryz.func146 (impl_extend.calls k (fun k_=>True) _ _ l n s _ _ t a z (fun k_=>True) _ _ x q1 q2 q3 q4 _ (Kd.V_mk (cl_ HO) (Kd.F_mono (Kd.C_F Kd.heap_string (Kd.R_reads' HO.out).2.2) (fun _ _=>trivial))) HT.out HT1.out (Kd.V_mk HX1.out (Kd.F_mono (Kd.C_F Kd.heap_string HX.out) (fun _ _=>trivial))) AE.out) ?_
    rintro e w4 ⟨v,rfl,ho,hb⟩
    refine ⟨_,rfl,?_⟩
    have HV:=am_ (Kd.R_mono (ok':=fun k_=>k_ ≠ g) (Kd.R_lower ho (sz_ HB)) (fun k_ hk_=>by have:=blk_lt BK.out;omega))
    replace HB:=ss_ HB hb
    replace BK:=kl_ BK hb;replace BH:=kl_ BH hb;replace HO:=rb_ HO hb;replace HP:=rb_ HP hb;replace HT:=am_ (Kd.C_below HT.out hb);replace HX:=am_ (Kd.C_below HX.out hb);replace HM:=rb_ HM hb;replace HKP:=am_ (Kept.below HKP.out hb);replace BL:=kl_ BL hb
    clear hb ho
    refine hK.out _ _ ⟨bc0_ BK.out,bc1_ BK.out,bc2_ BK.out,bc0_ BH.out,bc1_ BH.out⟩ (fun hHeld=>?_)
    clear hK K
    refine no_ 32 ?_
    refine pk_ 8 24 2559 ?_
    refine pk_ 9 33 3071 ?_
    refine pk_ 10 34 4095 ?_
    exact nj_ (hJ (v,gl) _ ⟨HV,HO,HP,HM,BK,BH,BL,GL,GLW,NGL,NHL,HB,HKP⟩)
  ·clear BK BH HO HP HT HX HM HB HKP hHeld
   rintro ⟨v,gl⟩ w6 ⟨HV,HO,HP,HM,BK,BH,BL,GL,GLW,NGL,NHL,HB,HKP⟩
   dsimp only at HV BL GL GLW NGL NHL
   have hHeld:=hn5_ (bc0_ BK.out) (bc1_ BK.out) (bc2_ BK.out) (bc0_ BH.out) (bc1_ BH.out)
   refine nj_ ?_
   obtain ⟨Av,cv,ev⟩:=Kd.R_slice HV.out
   subst ev
   refine one_ (i:=12) (N:=none) (lz_ 14 8191) rfl rfl (by kernel_rfl) (by decide) (fun K hK=>?_)
   have hs:=cz3_ BL
   have hn1:=NGL.out
   have hn2:=NGL.out.symm
   have hn3:=NHL.out
   have hn4:=NHL.out.symm
   refine skip_ (w1:=?_) (by rfl) rfl ?_ ?_
   rotate_left
   ·go_simp
    rfl
   obtain ⟨w7,hw7⟩:∃ w7:World,w7=(((w6.setCell ⟨gl,0,none⟩ (.slice Av q1.length cv)).setCell ⟨gl,1,none⟩ (.int .i64 q2)).setCell ⟨gl,2,none⟩ (.string q3)):=⟨_,rfl⟩
   rw [← hw7]
   have HV7:Aside0 (Kd.R Kd.string 9 w7 w0.heap.size (fun k_=>k_ ≠ g) (.slice Av q1.length cv) q1):=⟨by rw [hw7];exact kf_ HV BL⟩
   have HO7:Aside0 (Kd.R Kd.string 9 w7 w0.heap.size (fun k_=>k_ ≠ g) (.slice A0 l.length c0) l):=⟨by rw [hw7];exact kf_ HO BL⟩
   have HP7:Aside0 (Kd.R (Kd.int .u8) 5 w7 w0.heap.size (fun k_=>k_ ≠ g) (.slice A3 b.length c3) b):=⟨by rw [hw7];exact kf_ HP BL⟩
   have HM7:Aside0 (Kd.R (Kd.int .u8) 5 w7 w0.heap.size (fun _=>True) (.slice Am m.length cm) m):=⟨by rw [hw7];exact kf_ HM BL⟩
   have BK7:Aside0 (w7.heap[g]?=some (.cells #[.slice A0 l.length c0,.int .i64 n,.string s,.slice A3 b.length c3,.int .i64 u] 41 (0,0))):=⟨by rw [hw7];exact kq_ BK⟩
   have BH7:Aside0 (w7.heap[gh]?=some (.cells #[.int .i64 a,.string z] 37 (0,0))):=⟨by rw [hw7];exact kq_ BH⟩
   have BL7:Aside0 (w7.heap[gl]?=some (.cells #[.slice Av q1.length cv,.int .i64 q2,.string q3] 39 (0,0))):=⟨by rw [hw7];exact kq_ BL⟩
   have HB7:Aside0 (Below w0.heap.size w0 w7):=⟨by rw [hw7];exact bw_ HB⟩
   have HKP7:Aside0 (Kept w w7 (fun k_=>k_=g∨some k_=(Value.slice A3 b.length c3).ownBlock)):=⟨by rw [hw7];exact Kept.setCell (Kept.setCell (Kept.setCell HKP.out (.inr GLW.out) _) (.inr GLW.out) _) (.inr GLW.out) _⟩
   refine hK.out _ _ ⟨bc0_ BK7.out,bc1_ BK7.out,bc2_ BK7.out,bc0_ BH7.out,bc1_ BH7.out⟩ (fun hHeld=>?_)
   clear hK K HV HO HP HM BK BH BL HB HKP hs hw7
   refine pk_ 13 11 16383 ?_
   refine done_ (by kernel_rfl) ?_
   clear hHeld hn3 hn4
   have hz:=cz5_ BK7
   have hl:=cz3_ BL7
   have h:=H.out
   clear H
   replace h:=it_ h;obtain ⟨d2,h⟩|⟨d2,h⟩:=h
   ·have d2b:(q4 == 0)=true:=beq_iff_eq.mpr d2
    have d2c:(q4 != 0)=false:=bne_eq_false_iff_eq.mpr d2
    replace h:=ip_ h;obtain ⟨d3,h⟩:=h
    have LM:=am_ d3
    clear d2 d3
    replace h:=so5_ h;obtain ⟨rfl,rfl,rfl,rfl,rfl⟩:=h
    go_wp2_with ((at_builtin;refine Kd.R_append_rows (Kd.int .u8) (w0:=w0) w0.heap.size rfl (.tmp 46) (.tmp 47) 27 5 (.int .u8 0) 1 rfl Tryz.underlying27 info5 rfl (by decide) (by omega) (.slice A3 b.length c3) b m _ _ _ (fun k_=>k_ ≠ g) (fun _=>False) rfl rfl ?aO ?aR (fun _ _ h=>h) (fun _ h=>h.elim) ?aF ?aB ?aS ?aL ?_;(case aO=>exact Kd.R_gone (Kd.R_gone (Kd.R_gone HP7.out 0 (.slice Av q1.length cv)) 1 (.int .i64 q2)) 2 (.string q3));(case aR=>exact (chf_ HM7 BK7));(case aF=>exact (fun k_ hk_ e_=>by have:=blk_lt BK7.out;simp [World.setCell] at hk_;omega));(case aB=>exact (bw_ HB7));(case aS=>exact (sz_ HB7));(case aL=>have:=LM.out;omega);intro v9 w9 ho hb hgr hat;have BK9:=kgp_ BK7 HP7 hgr;have HV9:=am_ (Kd.R_mono (Kd.R_after (Kd.R_apart' (Kd.R_gone (Kd.R_gone (Kd.R_gone HV7.out 0 (.slice Av q1.length cv)) 1 (.int .i64 q2)) 2 (.string q3)) (Kd.R_typed (Kd.R_gone (Kd.R_gone (Kd.R_gone HP7.out 0 (.slice Av q1.length cv)) 1 (.int .i64 q2)) 2 (.string q3))) (by decide)) hgr hat) (fun _ h_=>h_.1));have HKP9:=am_ (Kept.of_grown hgr (Kept.setCell (Kept.setCell (Kept.setCell HKP7.out (.inl (.inl rfl)) _) (.inl (.inl rfl)) _) (.inl (.inl rfl)) _) (fun k_ hk_=>.inl (.inr hk_.symm)));have HB9:=am_ hb;obtain ⟨A9,c9,e9⟩:=Kd.R_slice ho;subst e9;have HP9:=am_ ho;clear ho hb hgr hat hz hl;have hz:=cz5_ BK9))
    go_ret
    exact ⟨rfl,Av,cv,A9,c9,Kd.R_gone HV9.out 3 _,Kd.R_gone HP9.out 3 _,(by rw [List.length_append];exact kq_ BK9),bw_ HB9,Kept.setCell HKP9.out (.inl (.inl rfl)) _⟩
   ·have d2b:(q4 == 0)=false:=beq_eq_false_iff_ne.mpr d2
    have d2c:(q4 != 0)=true:=bne_iff_ne.mpr d2
    clear d2
    replace h:=so5_ h;obtain ⟨rfl,rfl,rfl,rfl,rfl⟩:=h
    go_wp2
    go_ret
    exact ⟨rfl,A0,c0,A3,c3,HO7.out,HP7.out,BK7.out,HB7.out,HKP7.out⟩
section
attribute [local go_sem] max2_int min2_int max_two min_two
def impl_OpenStore.l0:Nat->List S37->List Int->Int->Int->Int->List ByteArray->Int->ByteArray->List Int->Option (List ByteArray × Int × ByteArray × List Int × Int)
 | 0,_,_,_,_,_,_,_,_,_=>none
 | k+1,t,b,u,cnt,at_,l,n,s,m=>if at_ < (b.length:Int) then ((impl_GetCommit.f k b at_).bind fun g=>(if g.2.2.2.2=true then ((impl_Store_commit.f k l n s m u t g.1 g.2.1 g.2.2.1).bind fun r=>(if r.2.2.2.2=0 then (impl_OpenStore.l0 k t b u (wrap64 (cnt+1)) g.2.2.2.1 r.1 r.2.1 r.2.2.1 r.2.2.2.1) else (some (r.1,r.2.1,r.2.2.1,r.2.2.2.1,cnt)))) else (some (l,n,s,m,cnt)))) else (some (l,n,s,m,cnt))
def impl_OpenStore.f (k:Nat) (t:List S37) (b:List Int):Option (List ByteArray × Int × ByteArray × List Int × Int × Int) :=
 (impl_StoreNew.f k).bind fun q=>((impl_OpenStore.l0 k t (b.take (mn (b.length:Int) 60000).toNat) q.2.2.2.2 0 0 q.1 q.2.1 q.2.2.1 q.2.2.2.1).bind fun r=>some (r.1,r.2.1,r.2.2.1,r.2.2.2.1,(r.2.2.2.1.length:Int),r.2.2.2.2))
theorem impl_OpenStore.calls (k:Nat) (A0:Option Addr) (c0:Nat) (t:List S37) (A1:Option Addr) (c1:Nat) (b:List Int) (r1:List ByteArray) (r2:Int) (r3:ByteArray) (r4:List Int) (r5 r6:Int) (w:World)
  (hr0:Kd.C k37 w A0 t.length t) (hc0:t.length≤c0) (hr1:Kd.C (Kd.int .u8) w A1 b.length b) (hc1:b.length≤c1) (h:impl_OpenStore.f k t b=some (r1,r2,r3,r4,r5,r6)) :
  Calls Tryz.prog 91 #[.slice A0 t.length c0,.slice A1 b.length c1] w fun e w'=>∃ v0_ v3_:Value,e = .returned (.tuple #[.agg #[v0_,.int .i64 r2,.string r3,v3_,.int .i64 r5],.int .i64 r6])∧Kd.R Kd.string 9 w' w.heap.size (fun _=>True) v0_ r1∧Kd.R (Kd.int .u8) 5 w' w.heap.size (fun _=>True) v3_ r4∧Below w.heap.size w w':=by
 have hu37:=Tryz.underlying41
 have hu28:=Tryz.underlying37
 have HR0:=am_ hr0
 have HC0:=am_ hc0
 have HR1:=am_ hr1
 have HC1:=am_ hc1
 have HB:=h0_ w
 unfold impl_OpenStore.f at h
 replace h:=bi_ h;obtain ⟨⟨q1,q2,q3,q4,q5⟩,AN,h⟩:=h
 dsimp only at h
 obtain ⟨j,hj⟩:∃ j:Int,mn (b.length:Int) 60000=j:=⟨_,rfl⟩
 rw [hj] at h
 have hj0:0≤j∧j≤(b.length:Int):=by
  unfold mn at hj
  split at hj <;> omega
 replace hj:(if (60000:Int) < (b.length:Int) then 60000 else (b.length:Int))=j:=hj
 have hj2:decide (0≤j)=true:=decide_eq_true hj0.1
 obtain ⟨i0,hi0,_,hsz0,_⟩:=info_parts info5
 obtain ⟨hcut,hA,hC⟩:=print_take_of (P:=Tryz.prog) (Value.int .u8) 0 27 5 .i64 Tryz.underlying27 hi0 hsz0 A1 c1 b j hj0.1 hj0.2 HC1.out
 have HRb:=am_ (Kd.C_of_reads (h1:=fun _=>rfl) (hA _ (Kd.reads_of_C HR1.out)))
 have HCb:=am_ hC
 clear hA hC hi0 hsz0 hj0 hr0 hc0 hr1 hc1
 generalize b.take j.toNat=b' at *
 replace h:=bi_ h;obtain ⟨⟨y1,y2,y3,y4,y5⟩,AL,h⟩:=h
 dsimp only at h
 replace h:=so6_ h;obtain ⟨rfl,rfl,rfl,rfl,rfl,rfl⟩:=h
 go_enter Tryz.func91,Tryz.ntmps91
 go_wp2_with (first|((with_reducible refine gd_ 4 ?_);refine x41_ 4 ?_;intro g4 hg w1 hbox hb;have B4:=am_ hbox;have G4:=gg_ hg HB;replace HB:=ss_ HB hb;clear hb hbox hg)|((with_reducible refine gq_ 123 19 ?_);refine gc_ 19 Tryz.func123 (impl_StoreNew.calls k q1 q2 q3 q4 q5 _ AN.out) ?_;rintro e w2 ⟨v0,v3,rfl,ho,hp,hb⟩;refine ⟨_,rfl,?_⟩;have HO:=rlo_ ho HB;have HP:=rlo_ hp HB;replace HB:=ss_ HB hb;replace B4:=kl_ B4 hb;clear hb ho hp;obtain ⟨Ao,co,eo⟩:=Kd.R_slice HO.out;subst eo;obtain ⟨Ap,cp,ep⟩:=Kd.R_slice HP.out;subst ep)|((with_reducible refine gd_ 6 ?_);refine x41_ 6 ?_;intro g6 hg w3 hbox hb;have B6:=am_ hbox;have G6:=gg_ hg HB;have N46:=nla_ hg B4;replace HB:=ss_ HB hb;replace B4:=kl_ B4 hb;replace HO:=rb_ HO hb;replace HP:=rb_ HP hb;clear hb hbox hg hj hcut hj2;have hz6:=cz5_ B6))
 go_loopg [7,8] k (fun kq v7 v8 w'=>∃ (cnt at_:Int) (l:List ByteArray) (n:Int) (s:ByteArray) (m:List Int) (Ao:Option Addr) (co:Nat) (Ap:Option Addr) (cp:Nat),v7 = .int .i64 cnt∧v8 = .int .i64 at_∧Aside0 (impl_OpenStore.l0 kq t b' q5 cnt at_ l n s m=some (y1,y2,y3,y4,y5))∧Aside0 (kq≤k)∧Aside0 (Kd.R Kd.string 9 w' w.heap.size (fun k_=>k_ ≠ g6) (.slice Ao l.length co) l)∧Aside0 (Kd.R (Kd.int .u8) 5 w' w.heap.size (fun k_=>k_ ≠ g6) (.slice Ap m.length cp) m)∧Aside0 (w'.heap[g6]?=some (.cells #[.slice Ao l.length co,.int .i64 n,.string s,.slice Ap m.length cp,.int .i64 q5] 41 (0,0)))∧Aside0 (w'.heap[g4]?=some (.cells #[.slice none 0 0,.int .i64 0,.string (⟨#[]⟩:ByteArray),.slice none 0 0,.int .i64 0] 41 (0,0)))∧Aside0 (Below w.heap.size w w'))
 case atStart => exact ⟨0,0,q1,q2,q3,q4,Ao,co,Ap,cp,e1_,e1_,AL,⟨Nat.le_refl _⟩,⟨Kd.R_mono (Kd.R_far (p:=⟨g6,4,none⟩) (Kd.R_far (p:=⟨g6,3,none⟩) (Kd.R_far (p:=⟨g6,2,none⟩) (Kd.R_far (p:=⟨g6,1,none⟩) (Kd.R_far (p:=⟨g6,0,none⟩) (Kd.R_types HO.out B6.out (by decide)) (fun _ hk=>hk.2) _) (fun _ hk=>hk.2) _) (fun _ hk=>hk.2) _) (fun _ hk=>hk.2) _) (fun _ hk=>hk.2) _) (fun _ h_=>h_.2)⟩,⟨Kd.R_mono (Kd.R_far (p:=⟨g6,4,none⟩) (Kd.R_far (p:=⟨g6,3,none⟩) (Kd.R_far (p:=⟨g6,2,none⟩) (Kd.R_far (p:=⟨g6,1,none⟩) (Kd.R_far (p:=⟨g6,0,none⟩) (Kd.R_types HP.out B6.out (by decide)) (fun _ hk=>hk.2) _) (fun _ hk=>hk.2) _) (fun _ hk=>hk.2) _) (fun _ hk=>hk.2) _) (fun _ hk=>hk.2) _) (fun _ h_=>h_.2)⟩,⟨kq_ B6⟩,⟨kq_ B4⟩,⟨bw_ HB⟩⟩
 case round =>
  clear AL HO HP B6 B4 HB hz6
  obtain ⟨cnt,at_,l,n,s,m,Ao,co,Ap,cp,rfl,rfl,HA,HK1,HO,HP,B6,B4,HB⟩:=hrel
  cases gk with
  | zero=>exact absurd HA.out (by simp [impl_OpenStore.l0])
  | succ k1 =>
   have H:=HA.out
   clear HA
   simp only [impl_OpenStore.l0] at H
   replace H:=it_ H;obtain ⟨d1,H⟩|⟨d1,H⟩:=H
   ·have d1b:decide (at_ < (b'.length:Int))=true:=decide_eq_true d1
    clear d1
    replace H:=bi_ H;obtain ⟨⟨g1,g2,g3,gn,g5⟩,AG,H⟩:=H
    dsimp only at H
    replace H:=itb_ H;obtain ⟨rfl,H⟩|⟨rfl,H⟩:=H
    ·replace H:=bi_ H;obtain ⟨⟨z1,z2,z3,z4,z5⟩,AM,H⟩:=H
     dsimp only at H
     replace H:=it_ H;obtain ⟨d2,H⟩|⟨d2,H⟩:=H
     ·have d2b:(z5 == 0)=true:=beq_iff_eq.mpr d2
      have d2c:(z5 != 0)=false:=bne_eq_false_iff_eq.mpr d2
      clear d2
      have H':=am_ H
      clear H
      go_wp2_with (first|((with_reducible refine gq_ 64 27 ?_);refine gc_ 27 Tryz.func64 (impl_GetCommit.calls k1 _ _ b' at_ g1 g2 g3 gn true _ (cb_ HRb HB) HCb.out AG.out) ?_;rintro e w5 ⟨v,rfl,ho,hb⟩;refine ⟨_,rfl,?_⟩;have HX:=rlo_ ho HB;replace HO:=rb_ HO hb;replace HP:=rb_ HP hb;replace B4:=kl_ B4 hb;replace B6:=kl_ B6 hb;replace HB:=ss_ HB hb;clear hb ho;obtain ⟨Ax,cx,ex⟩:=Kd.R_slice HX.out;subst ex)|((with_reducible refine gd_ 9 ?_);refine x37_ 9 ?_;intro g9 hg w6 hbox hb;have B9:=am_ hbox;have G9:=gg_ hg HB;have N69:=nla_ hg B6;have N49:=nla_ hg B4;replace HB:=ss_ HB hb;replace B4:=kl_ B4 hb;replace B6:=kl_ B6 hb;replace HO:=rb_ HO hb;replace HP:=rb_ HP hb;replace HX:=rb_ HX hb;clear hb hbox hg;have hz9:=cz2_ B9)|((with_reducible refine gq_ 124 37 ?_);refine gc_ 37 Tryz.func124 (impl_Store_commit.calls k1 g6 Ao co l n s Ap cp m q5 _ _ t g1 g2 _ _ g3 z1 z2 z3 z4 z5 w _ G6.out (kq_ B6) (kf_ HO B9) (kf_ HP B9) (Kd.C_below HR0.out (bw_ HB)) HC0.out (chf_ HX B9) (cl_ HX) (bw_ HB) AM.out) ?_;rintro e w7 ⟨rfl,A5,c5,A6,c6,ho,hp,hbk,hb,hk⟩;refine ⟨_,rfl,?_⟩;replace B4:=am_ (blk_kept (kq_ B4) hk (fun hs=>hs.elim (fun e=>N46.out e) (fun e=>(Kd.R_ne HP.out B4.out (by decide)) e)));replace B6:=am_ hbk;replace HB:=am_ hb;replace HO:=am_ ho;replace HP:=am_ hp;clear hb hbk ho hp hk hz9 B9 N69 N49 HX))
      go_roundg k1
      case measure => have:=HK1.out;omega
      case rel => exact ⟨wrap64 (cnt+1),gn,z1,z2,z3,z4,A5,c5,A6,c6,e1_,e1_,H',⟨by have:=HK1.out;omega⟩,HO,HP,B6,B4,HB⟩
     ·have d2b:(z5 == 0)=false:=beq_eq_false_iff_ne.mpr d2
      have d2c:(z5 != 0)=true:=bne_iff_ne.mpr d2
      clear d2
      replace H:=so5_ H;obtain ⟨rfl,rfl,rfl,rfl,rfl⟩:=H
      go_wp2_with (first|((with_reducible refine gq_ 64 27 ?_);refine gc_ 27 Tryz.func64 (impl_GetCommit.calls k1 _ _ b' at_ g1 g2 g3 gn true _ (cb_ HRb HB) HCb.out AG.out) ?_;rintro e w5 ⟨v,rfl,ho,hb⟩;refine ⟨_,rfl,?_⟩;have HX:=rlo_ ho HB;replace HO:=rb_ HO hb;replace HP:=rb_ HP hb;replace B4:=kl_ B4 hb;replace B6:=kl_ B6 hb;replace HB:=ss_ HB hb;clear hb ho;obtain ⟨Ax,cx,ex⟩:=Kd.R_slice HX.out;subst ex)|((with_reducible refine gd_ 9 ?_);refine x37_ 9 ?_;intro g9 hg w6 hbox hb;have B9:=am_ hbox;have G9:=gg_ hg HB;have N69:=nla_ hg B6;have N49:=nla_ hg B4;replace HB:=ss_ HB hb;replace B4:=kl_ B4 hb;replace B6:=kl_ B6 hb;replace HO:=rb_ HO hb;replace HP:=rb_ HP hb;replace HX:=rb_ HX hb;clear hb hbox hg;have hz9:=cz2_ B9)|((with_reducible refine gq_ 124 37 ?_);refine gc_ 37 Tryz.func124 (impl_Store_commit.calls k1 g6 Ao co l n s Ap cp m q5 _ _ t g1 g2 _ _ g3 z1 z2 z3 z4 z5 w _ G6.out (kq_ B6) (kf_ HO B9) (kf_ HP B9) (Kd.C_below HR0.out (bw_ HB)) HC0.out (chf_ HX B9) (cl_ HX) (bw_ HB) AM.out) ?_;rintro e w7 ⟨rfl,A5,c5,A6,c6,ho,hp,hbk,hb,hk⟩;refine ⟨_,rfl,?_⟩;replace B4:=am_ (blk_kept (kq_ B4) hk (fun hs=>hs.elim (fun e=>N46.out e) (fun e=>(Kd.R_ne HP.out B4.out (by decide)) e)));replace B6:=am_ hbk;replace HB:=am_ hb;replace HO:=am_ ho;replace HP:=am_ hp;clear hb hbk ho hp hk hz9 B9 N69 N49 HX;have hz6:=cz5_ B6;have hz4:=cz5_ B4;have hn5:=N46.out;have hn6:=N46.out.symm))
      refine bodyPost_ret (rct_ g4 41 #[.slice A5 z1.length c5,.int .i64 z2,.string z3,.slice A6 z4.length c6,.int .i64 (z4.length:Int)] B4 Tryz.underlying41) rfl ?_
      exact ⟨_,_,rfl,Kd.R_mono (kf_ ⟨Kd.R_gone HO.out 4 (.int .i64 (z4.length:Int))⟩ ⟨kq_ B4⟩) (fun _ _=>trivial),Kd.R_mono (kf_ ⟨Kd.R_gone HP.out 4 (.int .i64 (z4.length:Int))⟩ ⟨kq_ B4⟩) (fun _ _=>trivial),bw_ HB⟩
    ·replace H:=so5_ H;obtain ⟨rfl,rfl,rfl,rfl,rfl⟩:=H
     go_wp2_with (first|((with_reducible refine gq_ 64 27 ?_);refine gc_ 27 Tryz.func64 (impl_GetCommit.calls k1 _ _ b' at_ g1 g2 g3 gn false _ (cb_ HRb HB) HCb.out AG.out) ?_;rintro e w5 ⟨v,rfl,ho,hb⟩;refine ⟨_,rfl,?_⟩;have HX:=rlo_ ho HB;replace HO:=rb_ HO hb;replace HP:=rb_ HP hb;replace B4:=kl_ B4 hb;replace B6:=kl_ B6 hb;replace HB:=ss_ HB hb;clear hb ho;obtain ⟨Ax,cx,ex⟩:=Kd.R_slice HX.out;subst ex)|((with_reducible refine gd_ 9 ?_);refine x37_ 9 ?_;intro g9 hg w6 hbox hb;have B9:=am_ hbox;have G9:=gg_ hg HB;have N69:=nla_ hg B6;have N49:=nla_ hg B4;replace HB:=ss_ HB hb;replace B4:=kl_ B4 hb;replace B6:=kl_ B6 hb;replace HO:=rb_ HO hb;replace HP:=rb_ HP hb;replace HX:=rb_ HX hb;clear hb hbox hg;have hz9:=cz2_ B9;have hz6:=cz5_ B6;have hz4:=cz5_ B4;have hn1:=N69.out;have hn2:=N69.out.symm;have hn3:=N49.out;have hn4:=N49.out.symm;have hn5:=N46.out;have hn6:=N46.out.symm))
     refine bodyPost_ret (rct_ g4 41 #[.slice Ao l.length co,.int .i64 n,.string s,.slice Ap m.length cp,.int .i64 (m.length:Int)] B4 Tryz.underlying41) rfl ?_
     have HO2:Aside0 (Kd.R Kd.string 9 ((w6.setCell ⟨g9,0,none⟩ (.int .i64 g1)).setCell ⟨g9,1,none⟩ (.string g2)) w.heap.size (fun k_=>k_ ≠ g6) (.slice Ao l.length co) l):=⟨kf_ HO B9⟩
     have HP2:Aside0 (Kd.R (Kd.int .u8) 5 ((w6.setCell ⟨g9,0,none⟩ (.int .i64 g1)).setCell ⟨g9,1,none⟩ (.string g2)) w.heap.size (fun k_=>k_ ≠ g6) (.slice Ap m.length cp) m):=⟨kf_ HP B9⟩
     exact ⟨_,_,rfl,Kd.R_mono (kf_ ⟨Kd.R_gone HO2.out 4 (.int .i64 (m.length:Int))⟩ ⟨kq_ B4⟩) (fun _ _=>trivial),Kd.R_mono (kf_ ⟨Kd.R_gone HP2.out 4 (.int .i64 (m.length:Int))⟩ ⟨kq_ B4⟩) (fun _ _=>trivial),bw_ HB⟩
   ·have d1b:decide (at_ < (b'.length:Int))=false:=decide_eq_false d1
    clear d1
    replace H:=so5_ H;obtain ⟨rfl,rfl,rfl,rfl,rfl⟩:=H
    have hz6:=cz5_ B6
    have hz4:=cz5_ B4
    have hn5:=N46.out
    have hn6:=N46.out.symm
    go_wp2
    refine bodyPost_ret (rct_ g4 41 #[.slice Ao l.length co,.int .i64 n,.string s,.slice Ap m.length cp,.int .i64 (m.length:Int)] B4 Tryz.underlying41) rfl ?_
    exact ⟨_,_,rfl,Kd.R_mono (kf_ ⟨Kd.R_gone HO.out 4 (.int .i64 (m.length:Int))⟩ ⟨kq_ B4⟩) (fun _ _=>trivial),Kd.R_mono (kf_ ⟨Kd.R_gone HP.out 4 (.int .i64 (m.length:Int))⟩ ⟨kq_ B4⟩) (fun _ _=>trivial),bw_ HB⟩
end
section
attribute [local go_sem high] eqA37
def impl_isKnown.f (k:Nat) (l0:List (S37)) (a1_0:Int) (a1_1:ByteArray):Option (Bool):=(impl_HeadOf.f k ([]:List ByteArray)).bind fun bt2=>(if (a1_0 == bt2.1 && (a1_1.toList == bt2.2.toList))=true then (some true) else ((impl_IsSigned.f k l0 a1_0 a1_1).bind fun t4=>(some t4)))
def impl_isKnown.T1:Bool × List (List Nat × List Nat):=(true,[([],[]),([],[]),([0,1],[0,1]),([2,1],[2]),([3],[3]),([3],[3]),([4,5,3,3],[3,4,5]),([3,6],[3,6]),([7,6,0,1,2,3,4,5,6,7],[7])])
def impl_isKnown.B1:List Nat:=[0,0,3,7,15,15,63,127,255]
theorem impl_isKnown.tab1:rtab .any (opsOf Tryz.f61 1)=impl_isKnown.T1:=by kernel_rfl
theorem impl_isKnown.bits1:waitsOk impl_isKnown.T1.2 impl_isKnown.B1=true:=by kernel_rfl
theorem impl_isKnown.calls (k:Nat) (A0:Option Addr) (c0:Nat) (l0:List (S37)) (a1_0:Int) (a1_1:ByteArray) (r:Bool) (w:World) (hr0:Kd.C k37 w A0 l0.length l0) (hc0:l0.length≤c0) (h:impl_isKnown.f k l0 a1_0 a1_1=some r) :
  Calls Tryz.prog 61 #[.slice A0 l0.length c0,.agg #[.int .i64 a1_0,.string a1_1]] w fun e w'=>e = .returned (.bool r)∧Below w.heap.size w w':=by
 have hu37:=Tryz.underlying37
 have HR0:=am_ hr0
 have HC0:=am_ hc0
 clear hr0 hc0
 have HB:=h0_ w
 have H:((impl_HeadOf.f k ([]:List ByteArray)).bind fun bt2=>(if (a1_0 == bt2.1 && (a1_1.toList == bt2.2.toList))=true then (some true) else ((impl_IsSigned.f k l0 a1_0 a1_1).bind fun t4=>(some t4))))=some r:=h
 clear h
 replace H:=bi_ H;obtain ⟨⟨t602,t3⟩,A3,H⟩:=H
 dsimp only at H
 replace H:=it_ H;obtain ⟨c4,H⟩|⟨c4,H⟩:=H
 ·have c4b0:(a1_0 == t602 && (a1_1.toList == t3.toList))=true:=c4
  (try (have c4b1:decide (a1_0=t602 && (a1_1.toList == t3.toList))=true:=by simpa using c4))
  (try (have c4b2:(a1_0 == t602 && (a1_1.toList == t3.toList))=true:=by simpa using c4))
  clear c4
  obtain rfl:=Option.some.inj H
  go_enter Tryz.func61,Tryz.ntmps61
  try go_wp2_with (first|((with_reducible refine gd_ 3 ?_);refine bx_ 3 37 #[.int .i64 a1_0,.string a1_1] (hx_ HB ?_);clear HB;intro gb1 w5 BK1 GW1 HB;have GE1:=GW1))
  replace BK1:=bd_ BK1
  replace HB:=hd_ HB
  refine sw_ 9 (fun w'=>w'.cell? ⟨gb1,0,none⟩=some (.int .i64 a1_0)∧w'.cell? ⟨gb1,1,none⟩=some (.string a1_1)) [] impl_isKnown.tab1 impl_isKnown.bits1 ⟨bc0_ BK1.out,bc1_ BK1.out⟩ (fun hHeld HT_ HW_=>?_)
  generalize w5.drew=w6 at BK1 HB hHeld ⊢
  refine tt_ 0 5 1 ?_
  refine oz_ 1 6 9 3 (fun K hK=>?_)
  refine ge_ Tryz.func65 #[.slice none 0 0] ?_
  refine (impl_HeadOf.calls k _ _ ([]:List ByteArray) t602 t3 _ ?side1 ?side2 A3.out).mono ?_
  (case side1=>exact Kd.C_nil _ _)
  (case side2=>exact Nat.le_refl _)
  rintro e w7 ⟨rfl,hb⟩
  refine ⟨_,rfl,?_⟩
  replace BK1:=kl_ BK1 hb
  replace HB:=ss_ HB hb
  clear hb
  refine hK.out _ _ ⟨bc0_ BK1.out,bc1_ BK1.out⟩ (fun hHeld=>?_)
  clear hK K
  refine no_ 6 ?_
  refine pt_ 2 7 7 ?_
  refine pt_ 3 8 15 ?_
  refine ut_ 4 9 31 ?_
  refine ut_ 5 10 63 ?_
  refine ut_ 6 11 127 ?_
  refine pt_ 7 12 255 ?_
  refine pt_ 8 4 511 ?_
  refine dn_ ?_
  try go_wp2
  go_ret
  exact ⟨e2_,bw_ HB⟩
 ·have c4b0:(a1_0 == t602 && (a1_1.toList == t3.toList))=false:=by simpa using c4
  (try (have c4b1:decide (a1_0=t602 && (a1_1.toList == t3.toList))=false:=by simpa using c4))
  (try (have c4b2:(a1_0 == t602 && (a1_1.toList == t3.toList))=false:=by simpa using c4))
  (try (have c4b3:¬ (a1_0=t602 && (a1_1.toList == t3.toList)):=by simpa using c4))
  clear c4
  replace H:=bi_ H;obtain ⟨t4,A8,H⟩:=H
  obtain rfl:=Option.some.inj H
  go_enter Tryz.func61,Tryz.ntmps61
  try go_wp2_with (first|((with_reducible refine gd_ 3 ?_);refine bx_ 3 37 #[.int .i64 a1_0,.string a1_1] (hx_ HB ?_);clear HB;intro gb1 w9 BK1 GW1 HB;have GE1:=GW1))
  replace BK1:=bd_ BK1
  replace HB:=hd_ HB
  refine sw_ 9 (fun w'=>w'.cell? ⟨gb1,0,none⟩=some (.int .i64 a1_0)∧w'.cell? ⟨gb1,1,none⟩=some (.string a1_1)) [] impl_isKnown.tab1 impl_isKnown.bits1 ⟨bc0_ BK1.out,bc1_ BK1.out⟩ (fun hHeld HT_ HW_=>?_)
  generalize w9.drew=w10 at BK1 HB hHeld ⊢
  refine tt_ 0 5 1 ?_
  refine oz_ 1 6 9 3 (fun K hK=>?_)
  refine ge_ Tryz.func65 #[.slice none 0 0] ?_
  refine (impl_HeadOf.calls k _ _ ([]:List ByteArray) t602 t3 _ ?side1 ?side2 A3.out).mono ?_
  (case side1=>exact Kd.C_nil _ _)
  (case side2=>exact Nat.le_refl _)
  rintro e w11 ⟨rfl,hb⟩
  refine ⟨_,rfl,?_⟩
  replace BK1:=kl_ BK1 hb
  replace HB:=ss_ HB hb
  clear hb
  refine hK.out _ _ ⟨bc0_ BK1.out,bc1_ BK1.out⟩ (fun hHeld=>?_)
  clear hK K
  refine no_ 6 ?_
  refine pt_ 2 7 7 ?_
  refine pt_ 3 8 15 ?_
  refine pt_ 4 9 31 ?_
  refine tt_ 5 10 63 ?_
  refine oz_ 6 11 9 127 (fun K hK=>?_)
  refine gf_ Tryz.func96 (impl_IsSigned.calls k _ _ l0 a1_0 a1_1 t4 _ (cb_ HR0 HB) HC0.out A8.out) ?_
  rintro e w12 ⟨rfl,hb⟩
  refine ⟨_,rfl,?_⟩
  replace BK1:=kl_ BK1 hb
  replace HB:=ss_ HB hb
  clear hb
  refine hK.out _ _ ⟨bc0_ BK1.out,bc1_ BK1.out⟩ (fun hHeld=>?_)
  clear hK K
  refine no_ 11 ?_
  refine pt_ 7 12 255 ?_
  refine pt_ 8 4 511 ?_
  refine dn_ ?_
  try go_wp2
  go_ret
  exact ⟨e2_,bw_ HB⟩
end
def impl_MirrorOk.f (k:Nat) (a0_0:Int) (l0_1:List ByteArray) (a0_2:Int) (a0_3:ByteArray) (l0_4:List Int) (a0_5:Int) (a0_6:Int) (a0_7:ByteArray) (l1:List (S37)):Option (Bool):=(impl_isId.f a0_0).bind fun t602=>(if t602=true then ((impl_HeadOk.f a0_6 a0_7).bind fun t3=>(if t3=true then ((impl_isKnown.f k l1 a0_6 a0_7).bind fun t4=>(if t4=true then ((impl_isKnown.f k l1 a0_2 a0_3).bind fun t5=>(if t5=true then ((impl_StoreOk.f k l0_1 a0_2 a0_3 l0_4 a0_5).bind fun t6=>(some t6)) else (some false))) else (some false))) else (some false))) else (some false))
theorem impl_MirrorOk.calls (k:Nat) (a0_0:Int) (A0_1:Option Addr) (c0_1:Nat) (l0_1:List ByteArray) (a0_2:Int) (a0_3:ByteArray) (A0_4:Option Addr) (c0_4:Nat) (l0_4:List Int) (a0_5:Int) (a0_6:Int) (a0_7:ByteArray) (A1:Option Addr) (c1:Nat) (l1:List (S37)) (r:Bool) (w:World) (hr0_1:Kd.C Kd.string w A0_1 l0_1.length l0_1) (hc0_1:l0_1.length≤c0_1) (hr0_4:Kd.C (Kd.int .u8) w A0_4 l0_4.length l0_4) (hc0_4:l0_4.length≤c0_4) (hr1:Kd.C k37 w A1 l1.length l1) (hc1:l1.length≤c1) (h:impl_MirrorOk.f k a0_0 l0_1 a0_2 a0_3 l0_4 a0_5 a0_6 a0_7 l1=some r) :
  Calls Tryz.prog 27 #[.agg #[.int .i64 a0_0,.slice A0_1 l0_1.length c0_1,.int .i64 a0_2,.string a0_3,.slice A0_4 l0_4.length c0_4,.int .i64 a0_5,.int .i64 a0_6,.string a0_7],.slice A1 l1.length c1] w fun e w'=>e = .returned (.bool r)∧Below w.heap.size w w':=by
 have hu43:=Tryz.underlying43
 have hu37:=Tryz.underlying37
 have hu41:=Tryz.underlying41
 have HR0_1:=am_ hr0_1
 have HC0_1:=am_ hc0_1
 clear hr0_1 hc0_1
 have HR0_4:=am_ hr0_4
 have HC0_4:=am_ hc0_4
 clear hr0_4 hc0_4
 have HR1:=am_ hr1
 have HC1:=am_ hc1
 clear hr1 hc1
 have HB:=h0_ w
 have H:((impl_isId.f a0_0).bind fun t602=>(if t602=true then ((impl_HeadOk.f a0_6 a0_7).bind fun t3=>(if t3=true then ((impl_isKnown.f k l1 a0_6 a0_7).bind fun t4=>(if t4=true then ((impl_isKnown.f k l1 a0_2 a0_3).bind fun t5=>(if t5=true then ((impl_StoreOk.f k l0_1 a0_2 a0_3 l0_4 a0_5).bind fun t6=>(some t6)) else (some false))) else (some false))) else (some false))) else (some false)))=some r:=h
 clear h
 replace H:=bi_ H;obtain ⟨t602,A3,H⟩:=H
 replace H:=itb_ H;obtain ⟨rfl,H⟩|⟨rfl,H⟩:=H
 ·replace H:=bi_ H;obtain ⟨t3,A5,H⟩:=H
  replace H:=itb_ H;obtain ⟨rfl,H⟩|⟨rfl,H⟩:=H
  ·replace H:=bi_ H;obtain ⟨t4,A7,H⟩:=H
   replace H:=itb_ H;obtain ⟨rfl,H⟩|⟨rfl,H⟩:=H
   ·replace H:=bi_ H;obtain ⟨t5,A9,H⟩:=H
    replace H:=itb_ H;obtain ⟨rfl,H⟩|⟨rfl,H⟩:=H
    ·replace H:=bi_ H;obtain ⟨t6,A11,H⟩:=H
     obtain rfl:=Option.some.inj H
     go_enter Tryz.func27,Tryz.ntmps27
     go_wp2_with (first|((with_reducible refine gd_ 2 ?_);refine bx_ 2 43 #[.int .i64 a0_0,.slice A0_1 l0_1.length c0_1,.int .i64 a0_2,.string a0_3,.slice A0_4 l0_4.length c0_4,.int .i64 a0_5,.int .i64 a0_6,.string a0_7] (hx_ HB ?_);clear HB;intro gb1 w12 BK1 GW1 HB;have GE1:=GW1;have hcz13:=cz8_ BK1)|((with_reducible refine gq_ 59 7 ?_);refine gc_ 7 Tryz.func59 (impl_isId.calls a0_0 true _ A3.out) ?_;rintro e w' ⟨rfl,⟨nd,rfl⟩⟩;refine ⟨_,rfl,?_⟩)|(go_at_call 60;(with_reducible refine (impl_HeadOk.calls a0_6 a0_7 true _ A5.out).mono ?_);rintro e w14 ⟨rfl,hb⟩;replace BK1:=kl_ BK1 hb;replace HB:=ss_ HB hb;clear hb;have hcz15:=cz8_ BK1)|(go_at_call 61;(with_reducible refine (impl_isKnown.calls k _ _ l1 a0_6 a0_7 true _ ?side1 ?side2 A7.out).mono ?_);(case side1=>exact cb_ HR1 HB);(case side2=>exact HC1.out);rintro e w16 ⟨rfl,hb⟩;replace BK1:=kl_ BK1 hb;replace HB:=ss_ HB hb;clear hb;have hcz17:=cz8_ BK1)|(go_at_call 61;(with_reducible refine (impl_isKnown.calls k _ _ l1 a0_2 a0_3 true _ ?side1 ?side2 A9.out).mono ?_);(case side1=>exact cb_ HR1 HB);(case side2=>exact HC1.out);rintro e w18 ⟨rfl,hb⟩;replace BK1:=kl_ BK1 hb;replace HB:=ss_ HB hb;clear hb;have hcz19:=cz8_ BK1)|(go_at_call 29;(with_reducible refine (impl_StoreOk.calls k _ _ l0_1 a0_2 a0_3 _ _ l0_4 a0_5 t6 _ ?side1 ?side2 ?side3 ?side4 A11.out).mono ?_);(case side1=>exact cb_ HR0_1 HB);(case side2=>exact HC0_1.out);(case side3=>exact cb_ HR0_4 HB);(case side4=>exact HC0_4.out);rintro e w20 ⟨rfl,hb⟩;replace BK1:=kl_ BK1 hb;replace HB:=ss_ HB hb;clear hb))
     go_ret
     exact ⟨e2_,bw_ HB⟩
    ·obtain rfl:=Option.some.inj H
     go_enter Tryz.func27,Tryz.ntmps27
     go_wp2_with (first|((with_reducible refine gd_ 2 ?_);refine bx_ 2 43 #[.int .i64 a0_0,.slice A0_1 l0_1.length c0_1,.int .i64 a0_2,.string a0_3,.slice A0_4 l0_4.length c0_4,.int .i64 a0_5,.int .i64 a0_6,.string a0_7] (hx_ HB ?_);clear HB;intro gb1 w21 BK1 GW1 HB;have GE1:=GW1;have hcz22:=cz8_ BK1)|((with_reducible refine gq_ 59 7 ?_);refine gc_ 7 Tryz.func59 (impl_isId.calls a0_0 true _ A3.out) ?_;rintro e w' ⟨rfl,⟨nd,rfl⟩⟩;refine ⟨_,rfl,?_⟩)|(go_at_call 60;(with_reducible refine (impl_HeadOk.calls a0_6 a0_7 true _ A5.out).mono ?_);rintro e w23 ⟨rfl,hb⟩;replace BK1:=kl_ BK1 hb;replace HB:=ss_ HB hb;clear hb;have hcz24:=cz8_ BK1)|(go_at_call 61;(with_reducible refine (impl_isKnown.calls k _ _ l1 a0_6 a0_7 true _ ?side1 ?side2 A7.out).mono ?_);(case side1=>exact cb_ HR1 HB);(case side2=>exact HC1.out);rintro e w25 ⟨rfl,hb⟩;replace BK1:=kl_ BK1 hb;replace HB:=ss_ HB hb;clear hb;have hcz26:=cz8_ BK1)|(go_at_call 61;(with_reducible refine (impl_isKnown.calls k _ _ l1 a0_2 a0_3 false _ ?side1 ?side2 A9.out).mono ?_);(case side1=>exact cb_ HR1 HB);(case side2=>exact HC1.out);rintro e w27 ⟨rfl,hb⟩;replace BK1:=kl_ BK1 hb;replace HB:=ss_ HB hb;clear hb))
     go_ret
     exact ⟨e2_,bw_ HB⟩
   ·obtain rfl:=Option.some.inj H
    go_enter Tryz.func27,Tryz.ntmps27
    go_wp2_with (first|((with_reducible refine gd_ 2 ?_);refine bx_ 2 43 #[.int .i64 a0_0,.slice A0_1 l0_1.length c0_1,.int .i64 a0_2,.string a0_3,.slice A0_4 l0_4.length c0_4,.int .i64 a0_5,.int .i64 a0_6,.string a0_7] (hx_ HB ?_);clear HB;intro gb1 w28 BK1 GW1 HB;have GE1:=GW1;have hcz29:=cz8_ BK1)|((with_reducible refine gq_ 59 7 ?_);refine gc_ 7 Tryz.func59 (impl_isId.calls a0_0 true _ A3.out) ?_;rintro e w' ⟨rfl,⟨nd,rfl⟩⟩;refine ⟨_,rfl,?_⟩)|(go_at_call 60;(with_reducible refine (impl_HeadOk.calls a0_6 a0_7 true _ A5.out).mono ?_);rintro e w30 ⟨rfl,hb⟩;replace BK1:=kl_ BK1 hb;replace HB:=ss_ HB hb;clear hb;have hcz31:=cz8_ BK1)|(go_at_call 61;(with_reducible refine (impl_isKnown.calls k _ _ l1 a0_6 a0_7 false _ ?side1 ?side2 A7.out).mono ?_);(case side1=>exact cb_ HR1 HB);(case side2=>exact HC1.out);rintro e w32 ⟨rfl,hb⟩;replace BK1:=kl_ BK1 hb;replace HB:=ss_ HB hb;clear hb))
    go_ret
    exact ⟨e2_,bw_ HB⟩
  ·obtain rfl:=Option.some.inj H
   go_enter Tryz.func27,Tryz.ntmps27
   go_wp2_with (first|((with_reducible refine gd_ 2 ?_);refine bx_ 2 43 #[.int .i64 a0_0,.slice A0_1 l0_1.length c0_1,.int .i64 a0_2,.string a0_3,.slice A0_4 l0_4.length c0_4,.int .i64 a0_5,.int .i64 a0_6,.string a0_7] (hx_ HB ?_);clear HB;intro gb1 w33 BK1 GW1 HB;have GE1:=GW1;have hcz34:=cz8_ BK1)|((with_reducible refine gq_ 59 7 ?_);refine gc_ 7 Tryz.func59 (impl_isId.calls a0_0 true _ A3.out) ?_;rintro e w' ⟨rfl,⟨nd,rfl⟩⟩;refine ⟨_,rfl,?_⟩)|(go_at_call 60;(with_reducible refine (impl_HeadOk.calls a0_6 a0_7 false _ A5.out).mono ?_);rintro e w35 ⟨rfl,hb⟩;replace BK1:=kl_ BK1 hb;replace HB:=ss_ HB hb;clear hb))
   go_ret
   exact ⟨e2_,bw_ HB⟩
 ·obtain rfl:=Option.some.inj H
  go_enter Tryz.func27,Tryz.ntmps27
  go_wp2_with (first|((with_reducible refine gd_ 2 ?_);refine bx_ 2 43 #[.int .i64 a0_0,.slice A0_1 l0_1.length c0_1,.int .i64 a0_2,.string a0_3,.slice A0_4 l0_4.length c0_4,.int .i64 a0_5,.int .i64 a0_6,.string a0_7] (hx_ HB ?_);clear HB;intro gb1 w36 BK1 GW1 HB;have GE1:=GW1;have hcz37:=cz8_ BK1)|((with_reducible refine gq_ 59 7 ?_);refine gc_ 7 Tryz.func59 (impl_isId.calls a0_0 false _ A3.out) ?_;rintro e w' ⟨rfl,⟨nd,rfl⟩⟩;refine ⟨_,rfl,?_⟩))
  go_ret
  exact ⟨e2_,bw_ HB⟩
def impl_SyncMirror.f (k:Nat) (a:Int) (l:List ByteArray) (b:Int) (c:ByteArray) (d:List Int) (e f:Int) (z:ByteArray) (t:List S37):Option (Int × List ByteArray × Int × ByteArray × List Int × Int × Int × ByteArray) :=
 (impl_copyMirror.f a l b c d e f z).bind fun m=>((impl_MirrorOk.f k a l b c d e f z t).bind fun q=>(if q=true then some (m.1,m.2.1,m.2.2.1,m.2.2.2.1,m.2.2.2.2.1,(m.2.2.2.2.1.length:Int),m.2.2.2.2.2.2.1,m.2.2.2.2.2.2.2) else some m))
theorem sync_calls (g:Nat) (a:Int) (A1:Option Addr) (n1 c1:Nat) (b:Int) (c:ByteArray) (A4:Option Addr) (n4 c4:Nat) (e f:Int) (z:ByteArray) (w:World) (hb:w.heap[g]?=some (.cells #[.int .i64 a,.slice A1 n1 c1,.int .i64 b,.string c,.slice A4 n4 c4,.int .i64 e,.int .i64 f,.string z] 43 (0,0))) :
  Calls Tryz.prog 58 #[.pointer (some ⟨g,0,none⟩)] w fun e w'=>e = .returned (.tuple #[])∧w'=w.setCell ⟨g,5,none⟩ (.int .i64 (n4:Int)):=by
 have B:=am_ hb
 clear hb
 have hB_0:=bc0_ B.out;have fB_0:=blk_frozen B.out 0;have hB_1:=bc1_ B.out;have fB_1:=blk_frozen B.out 1;have hB_2:=bc2_ B.out;have fB_2:=blk_frozen B.out 2;have hB_3:=bc3_ B.out;have fB_3:=blk_frozen B.out 3;have hB_4:=bc4_ B.out;have fB_4:=blk_frozen B.out 4;have hB_5:=bc5_ B.out;have fB_5:=blk_frozen B.out 5;have hB_6:=bc6_ B.out;have fB_6:=blk_frozen B.out 6;have hB_7:=bc7_ B.out;have fB_7:=blk_frozen B.out 7
 go_enter Tryz.func58,Tryz.ntmps58
 go_wp2
 first|go_end0|((try simp only [Exit.inBlock,Exit.then]);refine bodyPost_ret (results_none rfl _ _ _) rfl ?_)
 exact ⟨rfl,rfl⟩
theorem impl_SyncMirror.calls (k:Nat) (a:Int) (A1:Option Addr) (c1:Nat) (l:List ByteArray) (b:Int) (c:ByteArray) (A4:Option Addr) (c4:Nat) (d:List Int) (e f:Int) (z:ByteArray) (A0:Option Addr) (c0:Nat) (t:List S37) (r1:Int) (r2:List ByteArray) (r3:Int) (r4:ByteArray) (r5:List Int) (r6 r7:Int) (r8:ByteArray) (w:World)
  (hr1:Kd.C Kd.string w A1 l.length l) (hc1:l.length≤c1) (hr4:Kd.C (Kd.int .u8) w A4 d.length d) (hc4:d.length≤c4) (hT:Kd.C k37 w A0 t.length t) (hT1:t.length≤c0) (h:impl_SyncMirror.f k a l b c d e f z t=some (r1,r2,r3,r4,r5,r6,r7,r8)) :
  Calls Tryz.prog 26 #[.agg #[.int .i64 a,.slice A1 l.length c1,.int .i64 b,.string c,.slice A4 d.length c4,.int .i64 e,.int .i64 f,.string z],.slice A0 t.length c0] w fun e w'=>∃ v1_ v4_:Value,e = .returned (.agg #[.int .i64 r1,v1_,.int .i64 r3,.string r4,v4_,.int .i64 r6,.int .i64 r7,.string r8])∧Kd.R Kd.string 9 w' w.heap.size (fun _=>True) v1_ r2∧Kd.R (Kd.int .u8) 5 w' w.heap.size (fun _=>True) v4_ r5∧Below w.heap.size w w':=by
 have hu43:=Tryz.underlying43
 have HR1:=am_ hr1
 have HC1:=am_ hc1
 have HR4:=am_ hr4
 have HC4:=am_ hc4
 have HT:=am_ hT
 have HT1:=am_ hT1
 have HB:=h0_ w
 unfold impl_SyncMirror.f at h
 replace h:=bi_ h;obtain ⟨⟨q1,q2,q3,q4,q5,q6,q7,q8⟩,AC,h⟩:=h
 dsimp only at h
 replace h:=bi_ h;obtain ⟨q,AO,h⟩:=h
 clear hr1 hc1 hr4 hc4 hT hT1
 cases q with
 | false =>
  rw [if_neg (by simp)] at h
  replace h:=so8_ h;obtain ⟨rfl,rfl,rfl,rfl,rfl,rfl,rfl,rfl⟩:=h
  go_enter Tryz.func26,Tryz.ntmps26
  go_wp2_with (first|((with_reducible refine gd_ 2 ?_);refine bx_ 2 43 #[.int .i64 a,.slice A1 l.length c1,.int .i64 b,.string c,.slice A4 d.length c4,.int .i64 e,.int .i64 f,.string z] ?_;intro gB2 hg wbB2 hbox hb;have B2:=am_ hbox;have GB2:=gg_ hg HB;replace HB:=ss_ HB hb;clear hb hbox hg)|((with_reducible refine gd_ 4 ?_);refine x43_ 4 ?_;intro gB4 hg wbB4 hbox hb;have B4:=am_ hbox;have GB4:=gg_ hg HB;have N24:=nla_ hg B2;replace HB:=ss_ HB hb;replace B2:=kl_ B2 hb;clear hb hbox hg;have hB2_0:=bc0_ B2.out;have fB2_0:=blk_frozen B2.out 0;have hB2_1:=bc1_ B2.out;have fB2_1:=blk_frozen B2.out 1;have hB2_2:=bc2_ B2.out;have fB2_2:=blk_frozen B2.out 2;have hB2_3:=bc3_ B2.out;have fB2_3:=blk_frozen B2.out 3;have hB2_4:=bc4_ B2.out;have fB2_4:=blk_frozen B2.out 4;have hB2_5:=bc5_ B2.out;have fB2_5:=blk_frozen B2.out 5;have hB2_6:=bc6_ B2.out;have fB2_6:=blk_frozen B2.out 6;have hB2_7:=bc7_ B2.out;have fB2_7:=blk_frozen B2.out 7)|((with_reducible refine gq_ 54 7 ?_);refine gc_ 7 Tryz.func54 (impl_copyMirror.calls a _ _ l b c _ _ d e f z q1 q2 q3 q4 q5 q6 q7 q8 _ (cb_ HR1 HB) HC1.out (cb_ HR4 HB) HC4.out AC.out) ?_;rintro e w4 ⟨v0,v3,rfl,ho,hp,hb⟩;refine ⟨_,rfl,?_⟩;have HO:=rlo_ ho HB;have HP:=rlo_ hp HB;replace HB:=ss_ HB hb;replace B2:=kl_ B2 hb;replace B4:=kl_ B4 hb;clear hb ho hp hB2_0 fB2_0 hB2_1 fB2_1 hB2_2 fB2_2 hB2_3 fB2_3 hB2_4 fB2_4 hB2_5 fB2_5 hB2_6 fB2_6 hB2_7 fB2_7;obtain ⟨Ao,co,eo⟩:=Kd.R_slice HO.out;subst eo;obtain ⟨Ap,cp,ep⟩:=Kd.R_slice HP.out;subst ep)|((with_reducible refine gd_ 5 ?_);refine x43_ 5 ?_;intro gB5 hg wbB5 hbox hb;have B5:=am_ hbox;have GB5:=gg_ hg HB;have N25:=nla_ hg B2;have N45:=nla_ hg B4;replace HB:=ss_ HB hb;replace B2:=kl_ B2 hb;replace B4:=kl_ B4 hb;replace HO:=rb_ HO hb;replace HP:=rb_ HP hb;clear hb hbox hg;have hB2_0:=bc0_ B2.out;have fB2_0:=blk_frozen B2.out 0;have hB2_1:=bc1_ B2.out;have fB2_1:=blk_frozen B2.out 1;have hB2_2:=bc2_ B2.out;have fB2_2:=blk_frozen B2.out 2;have hB2_3:=bc3_ B2.out;have fB2_3:=blk_frozen B2.out 3;have hB2_4:=bc4_ B2.out;have fB2_4:=blk_frozen B2.out 4;have hB2_5:=bc5_ B2.out;have fB2_5:=blk_frozen B2.out 5;have hB2_6:=bc6_ B2.out;have fB2_6:=blk_frozen B2.out 6;have hB2_7:=bc7_ B2.out;have fB2_7:=blk_frozen B2.out 7;have hB5_0:=bc0_ B5.out;have fB5_0:=blk_frozen B5.out 0;have hB5_1:=bc1_ B5.out;have fB5_1:=blk_frozen B5.out 1;have hB5_2:=bc2_ B5.out;have fB5_2:=blk_frozen B5.out 2;have hB5_3:=bc3_ B5.out;have fB5_3:=blk_frozen B5.out 3;have hB5_4:=bc4_ B5.out;have fB5_4:=blk_frozen B5.out 4;have hB5_5:=bc5_ B5.out;have fB5_5:=blk_frozen B5.out 5;have hB5_6:=bc6_ B5.out;have fB5_6:=blk_frozen B5.out 6;have hB5_7:=bc7_ B5.out;have fB5_7:=blk_frozen B5.out 7;have hn:=N25.out;have hn2:=N25.out.symm)|((with_reducible refine gq_ 27 10 ?_);refine gc_ 10 Tryz.func27 (impl_MirrorOk.calls k a _ _ l b c _ _ d e f z _ _ t false _ (Kd.C_below HR1.out (bw_ HB)) HC1.out (Kd.C_below HR4.out (bw_ HB)) HC4.out (Kd.C_below HT.out (bw_ HB)) HT1.out AO.out) ?_;rintro e w6 ⟨rfl,hb⟩;refine ⟨_,rfl,?_⟩;replace HO:=rbf_ HO B5 hb;replace HP:=rbf_ HP B5 hb;replace HB:=ss_ HB hb;replace B4:=kp_ B4 hb;replace B5:=kp_ B5 hb;clear hb hB2_0 fB2_0 hB2_1 fB2_1 hB2_2 fB2_2 hB2_3 fB2_3 hB2_4 fB2_4 hB2_5 fB2_5 hB2_6 fB2_6 hB2_7 fB2_7 hB5_0 fB5_0 hB5_1 fB5_1 hB5_2 fB5_2 hB5_3 fB5_3 hB5_4 fB5_4 hB5_5 fB5_5 hB5_6 fB5_6 hB5_7 fB5_7 hn hn2 N25;have hB5_0:=bc0_ B5.out;have fB5_0:=blk_frozen B5.out 0;have hB5_1:=bc1_ B5.out;have fB5_1:=blk_frozen B5.out 1;have hB5_2:=bc2_ B5.out;have fB5_2:=blk_frozen B5.out 2;have hB5_3:=bc3_ B5.out;have fB5_3:=blk_frozen B5.out 3;have hB5_4:=bc4_ B5.out;have fB5_4:=blk_frozen B5.out 4;have hB5_5:=bc5_ B5.out;have fB5_5:=blk_frozen B5.out 5;have hB5_6:=bc6_ B5.out;have fB5_6:=blk_frozen B5.out 6;have hB5_7:=bc7_ B5.out;have fB5_7:=blk_frozen B5.out 7;have hB4_0:=bc0_ B4.out;have fB4_0:=blk_frozen B4.out 0;have hB4_1:=bc1_ B4.out;have fB4_1:=blk_frozen B4.out 1;have hB4_2:=bc2_ B4.out;have fB4_2:=blk_frozen B4.out 2;have hB4_3:=bc3_ B4.out;have fB4_3:=blk_frozen B4.out 3;have hB4_4:=bc4_ B4.out;have fB4_4:=blk_frozen B4.out 4;have hB4_5:=bc5_ B4.out;have fB4_5:=blk_frozen B4.out 5;have hB4_6:=bc6_ B4.out;have fB4_6:=blk_frozen B4.out 6;have hB4_7:=bc7_ B4.out;have fB4_7:=blk_frozen B4.out 7;have hn:=N45.out;have hn2:=N45.out.symm))
  refine bodyPost_ret (rcr_ gB4 43 #[.int .i64 q1,.slice Ao q2.length co,.int .i64 q3,.string q4,.slice Ap q5.length cp,.int .i64 q6,.int .i64 q7,.string q8] B4 Tryz.underlying43) rfl ?_
  exact ⟨_,_,rfl,kf_ HO B4,kf_ HP B4,bw_ HB⟩
 | true =>
  rw [if_pos rfl] at h
  replace h:=so8_ h;obtain ⟨rfl,rfl,rfl,rfl,rfl,rfl,rfl,rfl⟩:=h
  go_enter Tryz.func26,Tryz.ntmps26
  go_wp2_with (first|((with_reducible refine gd_ 2 ?_);refine bx_ 2 43 #[.int .i64 a,.slice A1 l.length c1,.int .i64 b,.string c,.slice A4 d.length c4,.int .i64 e,.int .i64 f,.string z] ?_;intro gB2 hg wbB2 hbox hb;have B2:=am_ hbox;have GB2:=gg_ hg HB;replace HB:=ss_ HB hb;clear hb hbox hg)|((with_reducible refine gd_ 4 ?_);refine x43_ 4 ?_;intro gB4 hg wbB4 hbox hb;have B4:=am_ hbox;have GB4:=gg_ hg HB;have N24:=nla_ hg B2;replace HB:=ss_ HB hb;replace B2:=kl_ B2 hb;clear hb hbox hg;have hB2_0:=bc0_ B2.out;have fB2_0:=blk_frozen B2.out 0;have hB2_1:=bc1_ B2.out;have fB2_1:=blk_frozen B2.out 1;have hB2_2:=bc2_ B2.out;have fB2_2:=blk_frozen B2.out 2;have hB2_3:=bc3_ B2.out;have fB2_3:=blk_frozen B2.out 3;have hB2_4:=bc4_ B2.out;have fB2_4:=blk_frozen B2.out 4;have hB2_5:=bc5_ B2.out;have fB2_5:=blk_frozen B2.out 5;have hB2_6:=bc6_ B2.out;have fB2_6:=blk_frozen B2.out 6;have hB2_7:=bc7_ B2.out;have fB2_7:=blk_frozen B2.out 7)|((with_reducible refine gq_ 54 7 ?_);refine gc_ 7 Tryz.func54 (impl_copyMirror.calls a _ _ l b c _ _ d e f z q1 q2 q3 q4 q5 q6 q7 q8 _ (cb_ HR1 HB) HC1.out (cb_ HR4 HB) HC4.out AC.out) ?_;rintro e w4 ⟨v0,v3,rfl,ho,hp,hb⟩;refine ⟨_,rfl,?_⟩;have HO:=rlo_ ho HB;have HP:=rlo_ hp HB;replace HB:=ss_ HB hb;replace B2:=kl_ B2 hb;replace B4:=kl_ B4 hb;clear hb ho hp hB2_0 fB2_0 hB2_1 fB2_1 hB2_2 fB2_2 hB2_3 fB2_3 hB2_4 fB2_4 hB2_5 fB2_5 hB2_6 fB2_6 hB2_7 fB2_7;obtain ⟨Ao,co,eo⟩:=Kd.R_slice HO.out;subst eo;obtain ⟨Ap,cp,ep⟩:=Kd.R_slice HP.out;subst ep)|((with_reducible refine gd_ 5 ?_);refine x43_ 5 ?_;intro gB5 hg wbB5 hbox hb;have B5:=am_ hbox;have GB5:=gg_ hg HB;have N25:=nla_ hg B2;have N45:=nla_ hg B4;replace HB:=ss_ HB hb;replace B2:=kl_ B2 hb;replace B4:=kl_ B4 hb;replace HO:=rb_ HO hb;replace HP:=rb_ HP hb;clear hb hbox hg;have hB2_0:=bc0_ B2.out;have fB2_0:=blk_frozen B2.out 0;have hB2_1:=bc1_ B2.out;have fB2_1:=blk_frozen B2.out 1;have hB2_2:=bc2_ B2.out;have fB2_2:=blk_frozen B2.out 2;have hB2_3:=bc3_ B2.out;have fB2_3:=blk_frozen B2.out 3;have hB2_4:=bc4_ B2.out;have fB2_4:=blk_frozen B2.out 4;have hB2_5:=bc5_ B2.out;have fB2_5:=blk_frozen B2.out 5;have hB2_6:=bc6_ B2.out;have fB2_6:=blk_frozen B2.out 6;have hB2_7:=bc7_ B2.out;have fB2_7:=blk_frozen B2.out 7;have hB5_0:=bc0_ B5.out;have fB5_0:=blk_frozen B5.out 0;have hB5_1:=bc1_ B5.out;have fB5_1:=blk_frozen B5.out 1;have hB5_2:=bc2_ B5.out;have fB5_2:=blk_frozen B5.out 2;have hB5_3:=bc3_ B5.out;have fB5_3:=blk_frozen B5.out 3;have hB5_4:=bc4_ B5.out;have fB5_4:=blk_frozen B5.out 4;have hB5_5:=bc5_ B5.out;have fB5_5:=blk_frozen B5.out 5;have hB5_6:=bc6_ B5.out;have fB5_6:=blk_frozen B5.out 6;have hB5_7:=bc7_ B5.out;have fB5_7:=blk_frozen B5.out 7;have hn:=N25.out;have hn2:=N25.out.symm)|((with_reducible refine gq_ 27 10 ?_);refine gc_ 10 Tryz.func27 (impl_MirrorOk.calls k a _ _ l b c _ _ d e f z _ _ t true _ (Kd.C_below HR1.out (bw_ HB)) HC1.out (Kd.C_below HR4.out (bw_ HB)) HC4.out (Kd.C_below HT.out (bw_ HB)) HT1.out AO.out) ?_;rintro e w6 ⟨rfl,hb⟩;refine ⟨_,rfl,?_⟩;replace HO:=rbf_ HO B5 hb;replace HP:=rbf_ HP B5 hb;replace HB:=ss_ HB hb;replace B4:=kp_ B4 hb;replace B5:=kp_ B5 hb;clear hb hB2_0 fB2_0 hB2_1 fB2_1 hB2_2 fB2_2 hB2_3 fB2_3 hB2_4 fB2_4 hB2_5 fB2_5 hB2_6 fB2_6 hB2_7 fB2_7 hB5_0 fB5_0 hB5_1 fB5_1 hB5_2 fB5_2 hB5_3 fB5_3 hB5_4 fB5_4 hB5_5 fB5_5 hB5_6 fB5_6 hB5_7 fB5_7 hn hn2 N25;have hB5_0:=bc0_ B5.out;have fB5_0:=blk_frozen B5.out 0;have hB5_1:=bc1_ B5.out;have fB5_1:=blk_frozen B5.out 1;have hB5_2:=bc2_ B5.out;have fB5_2:=blk_frozen B5.out 2;have hB5_3:=bc3_ B5.out;have fB5_3:=blk_frozen B5.out 3;have hB5_4:=bc4_ B5.out;have fB5_4:=blk_frozen B5.out 4;have hB5_5:=bc5_ B5.out;have fB5_5:=blk_frozen B5.out 5;have hB5_6:=bc6_ B5.out;have fB5_6:=blk_frozen B5.out 6;have hB5_7:=bc7_ B5.out;have fB5_7:=blk_frozen B5.out 7;have hB4_0:=bc0_ B4.out;have fB4_0:=blk_frozen B4.out 0;have hB4_1:=bc1_ B4.out;have fB4_1:=blk_frozen B4.out 1;have hB4_2:=bc2_ B4.out;have fB4_2:=blk_frozen B4.out 2;have hB4_3:=bc3_ B4.out;have fB4_3:=blk_frozen B4.out 3;have hB4_4:=bc4_ B4.out;have fB4_4:=blk_frozen B4.out 4;have hB4_5:=bc5_ B4.out;have fB4_5:=blk_frozen B4.out 5;have hB4_6:=bc6_ B4.out;have fB4_6:=blk_frozen B4.out 6;have hB4_7:=bc7_ B4.out;have fB4_7:=blk_frozen B4.out 7;have hn:=N45.out;have hn2:=N45.out.symm)|((with_reducible refine gq_ 58 11 ?_);refine gc_ 11 Tryz.func58 (sync_calls gB5 _ _ _ _ _ _ _ _ _ _ _ _ _ B5.out) ?_;rintro e w7 ⟨rfl,hw⟩;refine ⟨_,rfl,?_⟩;replace HO:=am_ (show Kd.R Kd.string 9 w7 w.heap.size _ _ _ from by rw [hw];exact kf_ HO B5);replace HP:=am_ (show Kd.R (Kd.int .u8) 5 w7 w.heap.size _ _ _ from by rw [hw];exact kf_ HP B5);replace HB:=am_ (show Below w.heap.size w w7 from by rw [hw];exact bw_ HB);replace B4:=am_ (show w7.heap[gB4]?=some (.cells #[.int .i64 0,.slice none 0 0,.int .i64 0,.string (⟨#[]⟩:ByteArray),.slice none 0 0,.int .i64 0,.int .i64 0,.string (⟨#[]⟩:ByteArray)] 43 (0,0)) from by rw [hw];exact kq_ B4);replace B5:=am_ (show w7.heap[gB5]?=some (.cells #[.int .i64 q1,.slice Ao q2.length co,.int .i64 q3,.string q4,.slice Ap q5.length cp,.int .i64 (q5.length:Int),.int .i64 q7,.string q8] 43 (0,0)) from by rw [hw];exact kq_ B5);clear hw hn hn2 hB4_0 fB4_0 hB4_1 fB4_1 hB4_2 fB4_2 hB4_3 fB4_3 hB4_4 fB4_4 hB4_5 fB4_5 hB4_6 fB4_6 hB4_7 fB4_7 hB5_0 fB5_0 hB5_1 fB5_1 hB5_2 fB5_2 hB5_3 fB5_3 hB5_4 fB5_4 hB5_5 fB5_5 hB5_6 fB5_6 hB5_7 fB5_7;have hB5_0:=bc0_ B5.out;have fB5_0:=blk_frozen B5.out 0;have hB5_1:=bc1_ B5.out;have fB5_1:=blk_frozen B5.out 1;have hB5_2:=bc2_ B5.out;have fB5_2:=blk_frozen B5.out 2;have hB5_3:=bc3_ B5.out;have fB5_3:=blk_frozen B5.out 3;have hB5_4:=bc4_ B5.out;have fB5_4:=blk_frozen B5.out 4;have hB5_5:=bc5_ B5.out;have fB5_5:=blk_frozen B5.out 5;have hB5_6:=bc6_ B5.out;have fB5_6:=blk_frozen B5.out 6;have hB5_7:=bc7_ B5.out;have fB5_7:=blk_frozen B5.out 7;have hB4_0:=bc0_ B4.out;have fB4_0:=blk_frozen B4.out 0;have hB4_1:=bc1_ B4.out;have fB4_1:=blk_frozen B4.out 1;have hB4_2:=bc2_ B4.out;have fB4_2:=blk_frozen B4.out 2;have hB4_3:=bc3_ B4.out;have fB4_3:=blk_frozen B4.out 3;have hB4_4:=bc4_ B4.out;have fB4_4:=blk_frozen B4.out 4;have hB4_5:=bc5_ B4.out;have fB4_5:=blk_frozen B4.out 5;have hB4_6:=bc6_ B4.out;have fB4_6:=blk_frozen B4.out 6;have hB4_7:=bc7_ B4.out;have fB4_7:=blk_frozen B4.out 7;have hn:=N45.out;have hn2:=N45.out.symm))
  refine bodyPost_ret (rcr_ gB4 43 #[.int .i64 q1,.slice Ao q2.length co,.int .i64 q3,.string q4,.slice Ap q5.length cp,.int .i64 (q5.length:Int),.int .i64 q7,.string q8] B4 Tryz.underlying43) rfl ?_
  exact ⟨_,_,rfl,kf_ HO B4,kf_ HP B4,bw_ HB⟩
end Go.Proofs.YtnlndmoecljicaaGreat.Q
end
