-- Joined and shortened by a program of this session (wip/tools/shakecopy.py): the words of the print, texts of pp.sh and of mine.
import Derived.Test.YtnlndmoecljicaaGreatKFnExactSyncMirror6
import Derived.Lib.SliceRun
section
namespace Go.Proofs.YtnlndmoecljicaaGreat.Q
open Go.RowKit Go.Proofs.YtnlndmoecljicaaGreatW.PrintWords Go.Proofs.YtnlndmoecljicaaGreatW.PrintLast Go.Proofs.YtnlndmoecljicaaGreatW.PrintMore
attribute [local go_sem] max2_int min2_int max_two min_two max_three min_three max_four min_four   -- for this text's walks alone
set_option linter.unusedVariables false
set_option linter.unusedSimpArgs false
def spec_StoreOk.j0 : Nat → Bool → List ByteArray → Int → ByteArray → List Int → Int → Option (Bool)
 | 0, _, _, _, _, _, _ => none
 | k + 1, x23, x602000, x602001, x602002, x602003, x602004 => if x23 = true then (some false) else ((spec_l12Replay.f k x602003).bind fun bt604 => (if bt604.2.2.2 = true then ((spec_l8Same.f k bt604.1 x602000).bind fun t611 => (some t611)) else (some false)))
def spec_StoreOk.f (k : Nat) (l0_0 : List ByteArray) (a0_1 : Int) (a0_2 : ByteArray) (l0_3 : List Int) (a0_4 : Int) : Option (Bool) := (spec_LogOk.f k l0_0 a0_1 a0_2).bind fun t602 => (if t602 = true then (if (l0_3.length : Int) > 60000 then (spec_StoreOk.j0 k true l0_0 a0_1 a0_2 l0_3 a0_4) else ((spec_l1In.f a0_4 0 (l0_3.length : Int)).bind fun t603 => (spec_StoreOk.j0 k (!t603) l0_0 a0_1 a0_2 l0_3 a0_4))) else (spec_StoreOk.j0 k true l0_0 a0_1 a0_2 l0_3 a0_4))
set_option maxHeartbeats 8000000 in
set_option maxRecDepth 100000 in
theorem spec_StoreOk.calls (k : Nat) (A0_0 : Option Addr) (c0_0 : Nat) (l0_0 : List ByteArray) (a0_1 : Int) (a0_2 : ByteArray) (A0_3 : Option Addr) (c0_3 : Nat) (l0_3 : List Int) (a0_4 : Int) (r : Bool) (w : World) (hr0_0 : Kd.C Kd.string w A0_0 l0_0.length l0_0) (hc0_0 : l0_0.length ≤ c0_0) (hr0_3 : Kd.C (Kd.int .u8) w A0_3 l0_3.length l0_3) (hc0_3 : l0_3.length ≤ c0_3) (h : spec_StoreOk.f k l0_0 a0_1 a0_2 l0_3 a0_4 = some r) :
  Calls Tryz.prog 73 #[.agg #[.slice A0_0 l0_0.length c0_0, .int .i64 a0_1, .string a0_2, .slice A0_3 l0_3.length c0_3, .int .i64 a0_4]] w fun e w' => e = .returned (.bool r) ∧ Below w.heap.size w w' := by
 have hu41 := Tryz.underlying41
 have hu39 := Tryz.underlying39
 have HR0_0 := Aside0.mk hr0_0
 have HC0_0 := Aside0.mk hc0_0
 clear hr0_0 hc0_0
 have HR0_3 := Aside0.mk hr0_3
 have HC0_3 := Aside0.mk hc0_3
 clear hr0_3 hc0_3
 have HB := Aside0.mk (Below.refl w.heap.size w)
 have H : ((spec_LogOk.f k l0_0 a0_1 a0_2).bind fun t602 => (if t602 = true then (if (l0_3.length : Int) > 60000 then (spec_StoreOk.j0 k true l0_0 a0_1 a0_2 l0_3 a0_4) else ((spec_l1In.f a0_4 0 (l0_3.length : Int)).bind fun t603 => (spec_StoreOk.j0 k (!t603) l0_0 a0_1 a0_2 l0_3 a0_4))) else (spec_StoreOk.j0 k true l0_0 a0_1 a0_2 l0_3 a0_4))) = some r := h
 clear h
 have HC2 := Aside0.mk H
 clear H
 go_enter Tryz.func73, Tryz.ntmps73
 go_upto_region 1 with (first | ((with_reducible refine gd_ 1 ?_); (try (refine gate_guard (by rfl) ?_; dsimp only)); refine bx_ 1 41 #[.slice A0_0 l0_0.length c0_0, .int .i64 a0_1, .string a0_2, .slice A0_3 l0_3.length c0_3, .int .i64 a0_4] ?_; intro gb601 hg w3 hbox hb; have BK601 := Aside0.mk hbox; have GW601 := gg_ hg HB; have GE601 := GW601; replace HB := ss_ HB hb; clear hb hbox hg))
 (try simp only [Act.put, List.setIfInBounds_toArray, List.set_cons_zero, List.set_cons_succ])
 go_cut [23] (fun v23 wc => ∃ (kq : Nat) (x23_1 : Bool), v23 = .bool x23_1 ∧ Aside0 (spec_StoreOk.j0 kq x23_1 l0_0 a0_1 a0_2 l0_3 a0_4 = some r) ∧ Aside0 (kq ≤ k) ∧ Aside0 (wc.heap[gb601]? = some (.cells #[(.slice A0_0 l0_0.length c0_0), .int .i64 a0_1, .string a0_2, (.slice A0_3 l0_3.length c0_3), .int .i64 a0_4] 41 (0, 0))) ∧ Aside0 (Below w.heap.size w wc))
 case first =>
  have H := HC2.out
  clear HC2
  replace H := bi_ H; obtain ⟨t602, A4, H⟩ := H
  replace H := itb_ H; obtain ⟨rfl, H⟩ | ⟨rfl, H⟩ := H
  ·replace H := it_ H; obtain ⟨c6, H⟩ | ⟨c6, H⟩ := H
   ·have c6b0 : decide (60000 < (l0_3.length : Int)) = true := decide_eq_true c6
    have c6b1 : decide (60000 < l0_3.length) = true := decide_eq_true (by omega)
    clear c6
    (first | rw [c6b0] | (simp only [i64_w, i32_w]; rw [c6b0]) | rw [c6b1] | skip)
    have H' := Aside0.mk H
    clear H
    have hz7 := cz5_ BK601
    go_wp2_with (first | ((with_reducible refine gq_ 107 7 ?_); refine gc_ 7 Tryz.func107 (spec_LogOk.calls k _ _ l0_0 a0_1 a0_2 true _ (cb_ HR0_0 HB) HC0_0.out A4.out) ?_; rintro e w8 ⟨rfl, hb⟩; refine ⟨_, rfl, ?_⟩; replace BK601 := kl_ BK601 hb; replace HB := ss_ HB hb; clear hb; have hz9 := cz5_ BK601))
    go_meet
    case rel => exact ⟨_, (true), e1_, H', ⟨le_⟩, ⟨kb_ BK601.out⟩, ⟨bw_ HB⟩⟩
   ·have c6b0 : decide (60000 < (l0_3.length : Int)) = false := decide_eq_false c6
    have c6b1 : decide (60000 < l0_3.length) = false := decide_eq_false (by omega)
    clear c6
    (first | rw [c6b0] | (simp only [i64_w, i32_w]; rw [c6b0]) | rw [c6b1] | skip)
    replace H := bi_ H; obtain ⟨t603, A10, H⟩ := H
    have H' := Aside0.mk H
    clear H
    have hz11 := cz5_ BK601
    go_wp2_with (first | ((with_reducible refine gq_ 107 7 ?_); refine gc_ 7 Tryz.func107 (spec_LogOk.calls k _ _ l0_0 a0_1 a0_2 true _ (cb_ HR0_0 HB) HC0_0.out A4.out) ?_; rintro e w12 ⟨rfl, hb⟩; refine ⟨_, rfl, ?_⟩; replace BK601 := kl_ BK601 hb; replace HB := ss_ HB hb; clear hb; have hz13 := cz5_ BK601) | (go_at_call 72; (with_reducible refine (spec_l1In.calls a0_4 0 (l0_3.length : Int) t603 _ A10.out).mono ?_); rintro e w' ⟨rfl, ⟨nd, rfl⟩⟩))
    go_meet
    case rel => exact ⟨_, (!t603), e1_, H', ⟨le_⟩, ⟨kb_ BK601.out⟩, ⟨bw_ HB⟩⟩
  ·have H' := Aside0.mk H
   clear H
   have hz14 := cz5_ BK601
   go_wp2_with (first | ((with_reducible refine gq_ 107 7 ?_); refine gc_ 7 Tryz.func107 (spec_LogOk.calls k _ _ l0_0 a0_1 a0_2 false _ (cb_ HR0_0 HB) HC0_0.out A4.out) ?_; rintro e w15 ⟨rfl, hb⟩; refine ⟨_, rfl, ?_⟩; replace BK601 := kl_ BK601 hb; replace HB := ss_ HB hb; clear hb))
   go_meet
   case rel => exact ⟨_, (true), e1_, H', ⟨le_⟩, ⟨kb_ BK601.out⟩, ⟨bw_ HB⟩⟩
 case rest =>
  clear HC2
  obtain ⟨kq, x23_1, rfl, HA, HJ1, BK601, HB⟩ := hcut
  cases kq with
  | zero => exact absurd HA.out (by simp [spec_StoreOk.j0])
  | succ kj1 =>
   have H := HA.out
   clear HA
   simp only [spec_StoreOk.j0] at H
   replace H := itb_ H; obtain ⟨rfl, H⟩ | ⟨rfl, H⟩ := H
   ·obtain rfl := Option.some.inj H
    go_wp2
    go_ret
    exact ⟨e2_, bw_ HB⟩
   ·replace H := bi_ H; obtain ⟨⟨t604, t607, t608, t609⟩, A17, H⟩ := H
    dsimp only at H
    replace H := itb_ H; obtain ⟨rfl, H⟩ | ⟨rfl, H⟩ := H
    ·replace H := bi_ H; obtain ⟨t611, A19, H⟩ := H
     obtain rfl := Option.some.inj H
     have hz20 := cz5_ BK601
     go_wp2_with (first | ((with_reducible refine gq_ 108 27 ?_); refine gc_ 27 Tryz.func108 (spec_l12Replay.calls kj1 _ _ l0_3 t604 t607 t608 true _ (cb_ HR0_3 HB) HC0_3.out A17.out) ?_; rintro e w21 ⟨v605, rfl, ho0, hb⟩; refine ⟨_, rfl, ?_⟩; have HO606 := Aside0.mk (Kd.R_lower ho0 (sz_ HB)); replace BK601 := kl_ BK601 hb; replace HB := ss_ HB hb; clear hb ho0) | ((with_reducible refine gd_ 3 ?_); (try (refine gate_guard (by rfl) ?_; dsimp only)); refine bx_ 3 39 #[.slice none 0 0, .int .i64 0, .string (⟨#[]⟩ : ByteArray)] ?_; intro gb610 hg w22 hbox hb; replace HO606 := rb_ HO606 hb; have BK610 := Aside0.mk hbox; have GW610 := gg_ hg HB; have GE610 := GW610; replace HB := ss_ HB hb; have NB601_610 := nla_ hg BK601; have NB610_601 := nga_ hg BK601; replace BK601 := kl_ BK601 hb; clear hb hbox hg; obtain ⟨Ao23, co23, eo23⟩ := Kd.R_slice HO606.out; subst eo23; have hnb24 := NB610_601.out; have hnc24 := NB601_610.out; have hz25 := cz3_ BK610; have hz26 := cz5_ BK601) | (go_at_call 109; (with_reducible refine (spec_l8Same.calls kj1 _ _ t604 _ _ l0_0 t611 _ ?side1 ?side2 ?side3 ?side4 A19.out).mono ?_); (case side1 => exact chf_ HO606 BK610); (case side2 => exact (cl_ HO606)); (case side3 => exact Kd.C_below HR0_0.out (bw_ HB)); (case side4 => exact HC0_0.out); rintro e w' ⟨rfl, ⟨nd, rfl⟩⟩))
     go_ret
     exact ⟨e2_, bw_ HB⟩
    ·obtain rfl := Option.some.inj H
     have hz27 := cz5_ BK601
     go_wp2_with (first | ((with_reducible refine gq_ 108 27 ?_); refine gc_ 27 Tryz.func108 (spec_l12Replay.calls kj1 _ _ l0_3 t604 t607 t608 false _ (cb_ HR0_3 HB) HC0_3.out A17.out) ?_; rintro e w28 ⟨v605, rfl, ho0, hb⟩; refine ⟨_, rfl, ?_⟩; have HO606 := Aside0.mk (Kd.R_lower ho0 (sz_ HB)); replace BK601 := kl_ BK601 hb; replace HB := ss_ HB hb; clear hb ho0) | ((with_reducible refine gd_ 3 ?_); (try (refine gate_guard (by rfl) ?_; dsimp only)); refine bx_ 3 39 #[.slice none 0 0, .int .i64 0, .string (⟨#[]⟩ : ByteArray)] ?_; intro gb610 hg w29 hbox hb; replace HO606 := rb_ HO606 hb; have BK610 := Aside0.mk hbox; have GW610 := gg_ hg HB; have GE610 := GW610; replace HB := ss_ HB hb; have NB601_610 := nla_ hg BK601; have NB610_601 := nga_ hg BK601; replace BK601 := kl_ BK601 hb; clear hb hbox hg; obtain ⟨Ao30, co30, eo30⟩ := Kd.R_slice HO606.out; subst eo30; have hnb31 := NB610_601.out; have hnc31 := NB601_610.out; have hz32 := cz3_ BK610))
     go_ret
     exact ⟨e2_, bw_ HB⟩
end Go.Proofs.YtnlndmoecljicaaGreat.Q
end
section
namespace Go.Proofs.YtnlndmoecljicaaGreat.Q
open Go.RowKit Go.Proofs.YtnlndmoecljicaaGreat.B Go.Proofs.YtnlndmoecljicaaGreatW.PrintWords Go.Proofs.YtnlndmoecljicaaGreatW.PrintMore
set_option linter.unusedVariables false
set_option linter.unusedSimpArgs false
theorem log_new : Ev (fun k => spec_LogNew.f k) (([] : List ByteArray), (headOf []).1, (headOf []).2) := by
 unfold spec_LogNew.f
 exact Ev.bind (spec_HeadOf_ev [] (by simp)) (Ev.now _)
theorem ev_uniq {α : Type} {g : Nat → Option α} {r q : α} (h : Ev g r) (k : Ev g q) : r = q := by
 obtain ⟨K, h⟩ := h
 obtain ⟨M, k⟩ := k
 exact Option.some.inj ((h (max K M) (Nat.le_max_left _ _)).symm.trans (k (max K M) (Nat.le_max_right _ _)))
theorem getCommit_step (b : List Int) (hb : InB b) (hl : b.length ≤ 1048576) (a : Nat) (ha : a ≤ b.length) :
  ∃ n s t nx ok, Ev (fun q => spec_GetCommit.f q b (a : Int)) (n, s, t, nx, ok) ∧ Ev (fun q => impl_GetCommit.f q b (a : Int)) (n, s, t, nx, ok) ∧ t.length ≤ 200 ∧ (∀ x ∈ t, x.size ≤ bigB) ∧
   (ok = true → ∃ c : Nat, nx = (c : Int) ∧ a < c ∧ c ≤ b.length) ∧ (ok = false → t = []) := by
 obtain ⟨n, s, t, nx, ok, e1, ht, c1, c2⟩ := getCommitI b hb (by omega) (a : Int) (by omega) (by omega)
 obtain ⟨n', s', t', nx', ok', e2, e3, _⟩ := getCommit_both b hb (by omega) (a : Int) (by omega) (by omega)
 have h := ev_uniq e3 e1
 simp only [Prod.mk.injEq] at h
 obtain ⟨rfl, rfl, rfl, rfl, rfl⟩ := h
 refine ⟨_, _, _, _, _, e2, e1, ht, ?_, ?_, ?_⟩
 ·cases hok : ok' with
  | true =>
   obtain ⟨a', N, h1, rfl, _, _, hd, _, hle⟩ := c1 hok
   intro x hx
   have h2 := commitB_length N s' t'
   have h3 := bodyB_ge N s' t'
   have h4 := total_mem hx
   unfold bigB
   omega
  | false =>
   obtain ⟨_, _, rfl, _⟩ := c2 hok
   intro x hx
   cases hx
 ·intro hok
  obtain ⟨a', N, h1, rfl, _, _, hd, h2, hle⟩ := c1 hok
  have h3 := commitB_length N s' t'
  exact ⟨_, h2, by omega, hle⟩
 ·intro hok
  exact (c2 hok).2.2.1
theorem sizes_app {l t : List ByteArray} (h : ∀ x ∈ l, x.size ≤ bigB) (k : ∀ x ∈ t, x.size ≤ bigB) : ∀ x ∈ l ++ t, x.size ≤ bigB := fun x hx => (List.mem_append.1 hx).elim (h x) (k x)
theorem impl_many (b : List Int) (hb : InB b) (hl : b.length ≤ 1048576) (L : List ByteArray) (hL : L.length ≤ 200) (N : Int) (S : ByteArray) (U : Int) : ∀ (m a : Nat) (T : List ByteArray), b.length - a ≤ m → a ≤ b.length → 200 < T.length → T.length + 200 * (b.length - a) ≤ 1000000000 → (∀ x ∈ T, x.size ≤ bigB) →
  Ev (fun k => impl_StoreOk.l0 k T (a : Int) L N S b U) false := by
 intro m
 induction m with
 | zero =>
  intro a T h1 h2 h3 h4 h5
  refine Ev.step (fun k => by simp only [impl_StoreOk.l0]; rfl) ?_
  refine Ev.neg (by omega) (Ev.bind (impl_same_ev T L (by omega)) ?_)
  rw [decide_eq_false (fun e => by rw [e] at h3; omega)]
  exact Ev.now _
 | succ m ih =>
  intro a T h1 h2 h3 h4 h5
  refine Ev.step (fun k => by simp only [impl_StoreOk.l0]; rfl) ?_
  by_cases ha : (a : Int) < (b.length : Int)
  ·obtain ⟨n, s, t, nx, ok, e1, e2, ht, hs, c1, c2⟩ := getCommit_step b hb hl a h2
   refine Ev.pos ha (Ev.bind e2 ?_)
   simp only
   refine Ev.pos (by omega) ?_
   simp only [Option.bind_some]
   cases ok with
   | false => exact Ev.neg (by simp) (Ev.now _)
   | true =>
    obtain ⟨c, rfl, h6, h7⟩ := c1 rfl
    refine Ev.pos rfl (Ev.bind (impl_HeadOf_ev (T ++ t) (sizes_app h5 hs)) ?_)
    by_cases hh : (!(n == (headOf (T ++ t)).1) || (!(s.toList == (headOf (T ++ t)).2.toList))) = true
    ·exact Ev.pos hh (Ev.now _)
    ·refine Ev.neg hh (ih c (T ++ t) (by omega) h7 (by rw [List.length_append]; omega) (by rw [List.length_append]; omega) (sizes_app h5 hs))
  ·refine Ev.neg ha (Ev.bind (impl_same_ev T L (by omega)) ?_)
   rw [decide_eq_false (fun e => by rw [e] at h3; omega)]
   exact Ev.now _
theorem replay_both (b : List Int) (hb : InB b) (hl : b.length ≤ 1048576) (L : List ByteArray) (hL : L.length ≤ 200) (N : Int) (S : ByteArray) (U : Int) : ∀ (m a : Nat) (T : List ByteArray) (n : Int) (s : ByteArray), b.length - a ≤ m → a ≤ b.length → T.length ≤ 200 → (∀ x ∈ T, x.size ≤ bigB) →
  ∃ T' n' s' ok, Ev (fun k => spec_l12Replay.l0 k b (a : Int) T n s) (T', n', s', ok) ∧ T'.length ≤ 200 ∧ (∀ x ∈ T', x.size ≤ bigB) ∧ Ev (fun k => impl_StoreOk.l0 k T (a : Int) L N S b U) (if ok = true then decide (T' = L) else false) := by
 intro m
 induction m with
 | zero =>
  intro a T n s h1 h2 h3 h5
  refine ⟨T, n, s, true, ?_, h3, h5, ?_⟩
  ·refine Ev.step (fun k => by simp only [spec_l12Replay.l0]; rfl) ?_
   exact Ev.neg (by omega) (Ev.now _)
  ·refine Ev.step (fun k => by simp only [impl_StoreOk.l0]; rfl) ?_
   exact Ev.neg (by omega) (Ev.bind (impl_same_ev T L (by omega)) (Ev.now _))
 | succ m ih =>
  intro a T n s h1 h2 h3 h5
  by_cases ha : (a : Int) < (b.length : Int)
  ·obtain ⟨n1, s1, t, nx, ok, e1, e2, ht, hs, c1, c2⟩ := getCommit_step b hb hl a h2
   cases ok with
   | false =>
    refine ⟨T, n, s, false, ?_, h3, h5, ?_⟩
    ·refine Ev.step (fun k => by simp only [spec_l12Replay.l0]; rfl) ?_
     refine Ev.pos ha (Ev.bind e1 (Ev.neg (by simp) ?_))
     refine Ev.step (fun k => by simp only [spec_l12Replay.j1]; rfl) ?_
     exact Ev.pos trivial (Ev.now _)
    ·refine Ev.step (fun k => by simp only [impl_StoreOk.l0]; rfl) ?_
     refine Ev.pos ha (Ev.bind e2 (Ev.pos (by simp only; omega) ?_))
     simp only [Option.bind_some]
     exact Ev.neg (by simp) (Ev.now _)
   | true =>
    obtain ⟨c, rfl, h6, h7⟩ := c1 rfl
    have hw : wrap64 ((T.length : Int) + (t.length : Int)) = ((T.length + t.length : Nat) : Int) := by
     rw [w64 (by omega) (by omega)]
     omega
    have hsz := sizes_app h5 hs
    have hI : ∀ r, Ev (fun k => if (!(n1 == (headOf (T ++ t)).1) || (!(s1.toList == (headOf (T ++ t)).2.toList))) = true then some false else impl_StoreOk.l0 k (T ++ t) (c : Int) L N S b U) r → Ev (fun k => impl_StoreOk.l0 k T (a : Int) L N S b U) r := by
     intro r hr
     refine Ev.step (fun k => by simp only [impl_StoreOk.l0]; rfl) ?_
     refine Ev.pos ha (Ev.bind e2 (Ev.pos (by simp only; omega) ?_))
     simp only [Option.bind_some]
     exact Ev.pos trivial (Ev.bind (impl_HeadOf_ev (T ++ t) hsz) hr)
    by_cases hm : T.length + t.length ≤ 200
    ·have hS : ∀ r, Ev (fun k => if (!(n1 == (headOf (T ++ t)).1) || (!(s1.toList == (headOf (T ++ t)).2.toList))) = true then some (T ++ t, n1, s1, false) else spec_l12Replay.l0 k b (c : Int) (T ++ t) n1 s1) r → Ev (fun k => spec_l12Replay.l0 k b (a : Int) T n s) r := by
      intro r hr
      refine Ev.step (fun k => by simp only [spec_l12Replay.l0]; rfl) ?_
      refine Ev.pos ha (Ev.bind e1 (Ev.pos rfl ?_))
      simp only [hw]
      rw [decide_eq_false (by omega)]
      refine Ev.step (fun k => by simp only [spec_l12Replay.j1]; rfl) ?_
      refine Ev.neg (by simp) (Ev.pos (by omega) ?_)
      simp only [Option.bind_some]
      exact Ev.bind (spec_HeadOf_ev (T ++ t) hsz) hr
     have hlen : (T ++ t).length ≤ 200 := by rw [List.length_append]; exact hm
     by_cases hh : (!(n1 == (headOf (T ++ t)).1) || (!(s1.toList == (headOf (T ++ t)).2.toList))) = true
     ·exact ⟨_, _, _, false, hS _ (Ev.pos hh (Ev.now _)), hlen, hsz, hI _ (Ev.pos hh (Ev.now _))⟩
     ·obtain ⟨T', n', s', ok, f1, f2, f3, f4⟩ := ih c (T ++ t) n1 s1 (by omega) h7 hlen hsz
      exact ⟨T', n', s', ok, hS _ (Ev.neg hh f1), f2, f3, hI _ (Ev.neg hh f4)⟩
    ·refine ⟨T, n, s, false, ?_, h3, h5, ?_⟩
     ·refine Ev.step (fun k => by simp only [spec_l12Replay.l0]; rfl) ?_
      refine Ev.pos ha (Ev.bind e1 (Ev.pos rfl ?_))
      simp only [hw]
      rw [decide_eq_true (by omega)]
      refine Ev.step (fun k => by simp only [spec_l12Replay.j1]; rfl) ?_
      exact Ev.pos trivial (Ev.now _)
     ·refine hI _ ?_
      by_cases hh : (!(n1 == (headOf (T ++ t)).1) || (!(s1.toList == (headOf (T ++ t)).2.toList))) = true
      ·exact Ev.pos hh (Ev.now _)
      ·exact Ev.neg hh (impl_many b hb hl L hL N S U (b.length - c) c (T ++ t) (Nat.le_refl _) h7 (by rw [List.length_append]; omega) (by rw [List.length_append]; omega) hsz)
  ·refine ⟨T, n, s, true, ?_, h3, h5, ?_⟩
   ·refine Ev.step (fun k => by simp only [spec_l12Replay.l0]; rfl) ?_
    exact Ev.neg ha (Ev.now _)
   ·refine Ev.step (fun k => by simp only [impl_StoreOk.l0]; rfl) ?_
    exact Ev.neg ha (Ev.bind (impl_same_ev T L (by omega)) (Ev.now _))
theorem storeOk_both (l : List ByteArray) (n : Int) (s : ByteArray) (b : List Int) (u : Int) (hb : InB b) (hl : b.length ≤ 1048576) (hs : ∀ x ∈ l, x.size ≤ bigB) :
  ∃ r, Ev (fun k => spec_StoreOk.f k l n s b u) r ∧ Ev (fun k => impl_StoreOk.f k l n s b u) r := by
 have jS : Ev (fun k => spec_StoreOk.j0 k true l n s b u) false := by
  refine Ev.step (fun k => by simp only [spec_StoreOk.j0]; rfl) ?_
  exact Ev.pos trivial (Ev.now _)
 have jI : Ev (fun k => impl_StoreOk.j0 k true l n s b u) false := by
  refine Ev.step (fun k => by simp only [impl_StoreOk.j0]; rfl) ?_
  exact Ev.pos trivial (Ev.now _)
 have lS := spec_LogOk_ev l n s hs
 have lI := impl_LogOk_ev l n s hs
 unfold spec_StoreOk.f impl_StoreOk.f
 by_cases h1 : logOk l n s = true
 ·by_cases h2 : (b.length : Int) > 60000
  ·exact ⟨false, Ev.bind lS (Ev.pos h1 (Ev.pos h2 jS)), Ev.bind lI (Ev.pos h1 (Ev.pos h2 jI))⟩
  ·have hlen : l.length ≤ 200 := by
    unfold logOk at h1
    by_cases h : (l.length : Int) ≤ 200
    ·omega
    ·rw [if_neg h] at h1
     cases h1
   have iS : spec_l1In.f u 0 (b.length : Int) = some (decide (0 ≤ u) && decide (u ≤ (b.length : Int))) := by
    unfold spec_l1In.f
    by_cases h : u ≥ 0
    ·rw [if_pos h, decide_eq_true h]
     rfl
    ·rw [if_neg h, decide_eq_false h]
     rfl
   have iI : impl_inRange.f u 0 (b.length : Int) = some (decide (0 ≤ u) && decide (u ≤ (b.length : Int))) := by
    unfold impl_inRange.f
    by_cases h : u ≥ 0
    ·rw [if_pos h, decide_eq_true h]
     rfl
    ·rw [if_neg h, decide_eq_false h]
     rfl
   have fin : ∀ q : Bool, ∃ r, Ev (fun k => spec_StoreOk.j0 k (!q) l n s b u) r ∧ Ev (fun k => impl_StoreOk.j0 k (!q) l n s b u) r := by
    intro q
    cases q with
    | false => exact ⟨false, jS, jI⟩
    | true =>
     obtain ⟨T', n', s', ok, f1, f2, f3, f4⟩ := replay_both b hb hl l hlen n s u b.length 0 [] (headOf []).1 (headOf []).2 (by omega) (by omega) (by simp) (by simp)
     have fI : Ev (fun k => impl_StoreOk.j0 k (!true) l n s b u) (if ok = true then decide (T' = l) else false) := by
      refine Ev.step (fun k => by simp only [impl_StoreOk.j0]; rfl) ?_
      exact Ev.neg (by simp) f4
     have rS : Ev (fun k => spec_l12Replay.f k b) (T', n', s', ok) := by
      unfold spec_l12Replay.f
      exact Ev.bind log_new f1
     refine ⟨_, ?_, fI⟩
     refine Ev.step (fun k => by simp only [spec_StoreOk.j0]; rfl) ?_
     refine Ev.neg (by simp) (Ev.bind rS ?_)
     cases ok with
     | true => exact Ev.pos rfl (Ev.bind (spec_same_ev T' l (by omega)) (Ev.now _))
     | false => exact Ev.neg (by simp) (Ev.now _)
   obtain ⟨r, r1, r2⟩ := fin (decide (0 ≤ u) && decide (u ≤ (b.length : Int)))
   exact ⟨r, Ev.bind lS (Ev.pos h1 (Ev.neg h2 (Ev.bind (Ev.const iS) r1))), Ev.bind lI (Ev.pos h1 (Ev.neg h2 (Ev.bind (Ev.const iI) r2)))⟩
 ·exact ⟨false, Ev.bind lS (Ev.neg h1 jS), Ev.bind lI (Ev.neg h1 jI)⟩
end Go.Proofs.YtnlndmoecljicaaGreat.Q
end
section
namespace Go.Proofs.YtnlndmoecljicaaGreat.Q
open Go.RowKit Go.Proofs.YtnlndmoecljicaaGreatW.PrintWords Go.Proofs.YtnlndmoecljicaaGreatW.PrintLast Go.Proofs.YtnlndmoecljicaaGreatW.PrintMore
attribute [local go_sem] max2_int min2_int max_two min_two max_three min_three max_four min_four   -- for this text's walks alone
set_option linter.unusedVariables false
set_option linter.unusedSimpArgs false
attribute [local go_sem high] eqA37
def spec_IsSigned.l0 : Nat → List (S37) → Int → Int → ByteArray → Option (Bool)
 | 0, _, _, _, _ => none
 | k + 1, x0, x5, x602000, x602001 => if x5 < (x0.length : Int) then (if 0 ≤ x5 then (if (((rd_T37 x0 x5).f0) == x602000 && ((((rd_T37 x0 x5).f1).toList) == x602001.toList)) = true then (some true) else (spec_IsSigned.l0 k x0 (wrap64 (x5 + 1)) x602000 x602001)) else (none)) else (some false)
def spec_IsSigned.f (k : Nat) (l0 : List (S37)) (a1_0 : Int) (a1_1 : ByteArray) : Option (Bool) := spec_IsSigned.l0 k l0 0 a1_0 a1_1
set_option maxHeartbeats 8000000 in
set_option maxRecDepth 100000 in
theorem spec_IsSigned.calls (k : Nat) (A0 : Option Addr) (c0 : Nat) (l0 : List (S37)) (a1_0 : Int) (a1_1 : ByteArray) (r : Bool) (w : World) (hr0 : Kd.C k37 w A0 l0.length l0) (hc0 : l0.length ≤ c0) (h : spec_IsSigned.f k l0 a1_0 a1_1 = some r) :
  Calls Tryz.prog 111 #[.slice A0 l0.length c0, .agg #[.int .i64 a1_0, .string a1_1]] w fun e w' => e = .returned (.bool r) ∧ Below w.heap.size w w' := by
 have hu37 := Tryz.underlying37
 have HR0 := Aside0.mk hr0
 have HC0 := Aside0.mk hc0
 clear hr0 hc0
 have HB := Aside0.mk (Below.refl w.heap.size w)
 have H : (spec_IsSigned.l0 k l0 0 a1_0 a1_1) = some r := h
 clear h
 have H' := Aside0.mk H
 clear H
 go_enter Tryz.func111, Tryz.ntmps111
 go_wp2_with (first | ((with_reducible refine gd_ 3 ?_); refine bx_ 3 37 #[.int .i64 a1_0, .string a1_1] ?_; intro gb601 hg w3 hbox hb; have BK601 := Aside0.mk hbox; have GW601 := gg_ hg HB; have GE601 := GW601; replace HB := ss_ HB hb; clear hb hbox hg))
 repeat (go_quiet (first | ((with_reducible refine gd_ 3 ?_); refine bx_ 3 37 #[.int .i64 a1_0, .string a1_1] ?_; intro gb601 hg w3 hbox hb; have BK601 := Aside0.mk hbox; have GW601 := gg_ hg HB; have GE601 := gg_ hg HB; replace HB := ss_ HB hb; clear hb hbox hg)); try go_wp2_with (first | ((with_reducible refine gd_ 3 ?_); refine bx_ 3 37 #[.int .i64 a1_0, .string a1_1] ?_; intro gb601 hg w3 hbox hb; have BK601 := Aside0.mk hbox; have GW601 := gg_ hg HB; have GE601 := GW601; replace HB := ss_ HB hb; clear hb hbox hg)))
 go_loopg [5] k (fun kq v5 w' => ∃ (x5_1 : Int), v5 = .int .i64 x5_1 ∧ Aside0 (spec_IsSigned.l0 kq l0 x5_1 a1_0 a1_1 = some r) ∧ Aside0 (kq ≤ k) ∧ Aside0 (w'.heap[gb601]? = some (.cells #[.int .i64 a1_0, .string a1_1] 37 (0, 0))) ∧ Aside0 (Below w.heap.size w w'))
 case atStart => exact ⟨(0), e1_, H', ⟨Nat.le_refl _⟩, ⟨kb_ BK601.out⟩, ⟨bw_ HB⟩⟩
 case round =>
  clear H'
  obtain ⟨x5_1, rfl, HA, HK1, BK601, HB⟩ := hrel
  cases gk with
  | zero => exact absurd HA.out (by simp [spec_IsSigned.l0])
  | succ k1 =>
   have H := HA.out
   clear HA
   simp only [spec_IsSigned.l0] at H
   replace H := itd_ H; obtain ⟨c4b0, H⟩ | ⟨c4b0, H⟩ := H
   ·replace H := ipd_ H; obtain ⟨c5b0, H⟩ := H
    replace H := it_ H; obtain ⟨c6, H⟩ | ⟨c6, H⟩ := H
    ·have c6b0 : (((rd_T37 l0 x5_1).f0) == a1_0 && ((((rd_T37 l0 x5_1).f1).toList) == a1_1.toList)) = true := c6
     (try (have c6b1 : decide (((rd_T37 l0 x5_1).f0) = a1_0 && ((((rd_T37 l0 x5_1).f1).toList) == a1_1.toList)) = true := by simpa using c6))
     (try (have c6b2 : (((rd_T37 l0 x5_1).f0) == a1_0 && ((((rd_T37 l0 x5_1).f1).toList) == a1_1.toList)) = true := by simpa using c6))
     clear c6
     obtain rfl := Option.some.inj H
     have p602 : 0 ≤ (x5_1 : Int) := of_decide_eq_true as_
     have q602 : x5_1 < (l0.length : Int) := of_decide_eq_true as_
     obtain ⟨ad602, e602, hx602_0, hx602_1⟩ := at_T37 HR0.out x5_1 p602 q602
     cases e602
     replace hx602_0 := cw_ HB hx602_0
     replace hx602_1 := cw_ HB hx602_1
     replace p602 := eq_true p602
     replace q602 := eq_true q602
     have hz7 := cz2_ BK601
     go_wp2
     repeat (go_quiet (fail); try go_wp2)
     go_ret
     exact ⟨e2_, bw_ HB⟩
    ·have c6b0 : (((rd_T37 l0 x5_1).f0) == a1_0 && ((((rd_T37 l0 x5_1).f1).toList) == a1_1.toList)) = false := by simpa using c6
     (try (have c6b1 : decide (((rd_T37 l0 x5_1).f0) = a1_0 && ((((rd_T37 l0 x5_1).f1).toList) == a1_1.toList)) = false := by simpa using c6))
     (try (have c6b2 : (((rd_T37 l0 x5_1).f0) == a1_0 && ((((rd_T37 l0 x5_1).f1).toList) == a1_1.toList)) = false := by simpa using c6))
     (try (have c6b3 : ¬ (((rd_T37 l0 x5_1).f0) = a1_0 && ((((rd_T37 l0 x5_1).f1).toList) == a1_1.toList)) := by simpa using c6))
     clear c6
     have H' := Aside0.mk H
     clear H
     have p602 : 0 ≤ (x5_1 : Int) := of_decide_eq_true as_
     have q602 : x5_1 < (l0.length : Int) := of_decide_eq_true as_
     obtain ⟨ad602, e602, hx602_0, hx602_1⟩ := at_T37 HR0.out x5_1 p602 q602
     cases e602
     replace hx602_0 := cw_ HB hx602_0
     replace hx602_1 := cw_ HB hx602_1
     replace p602 := eq_true p602
     replace q602 := eq_true q602
     have hz8 := cz2_ BK601
     go_wp2
     repeat (go_quiet (fail); try go_wp2)
     go_roundg k1
     case measure => have := HK1.out; omega
     case rel => exact ⟨(wrap64 (x5_1 + 1)), e1_, H', ⟨by have := HK1.out; omega⟩, ⟨kb_ BK601.out⟩, ⟨bw_ HB⟩⟩
   ·obtain rfl := Option.some.inj H
    go_wp2
    repeat (go_quiet (fail); try go_wp2)
    go_ret
    exact ⟨e2_, bw_ HB⟩
def impl_Head_152.l0 : Nat → List (S37) → Int → Int → Int → ByteArray → Option (Int)
 | 0, _, _, _, _, _ => none
 | k + 1, x0, x7, x8, x602000, x602001 => if x8 < x7 then (if 0 ≤ x8 then (if x8 < (x0.length : Int) then (if (x602000 == ((rd_T37 x0 x8).f0) && (x602001.toList == (((rd_T37 x0 x8).f1).toList))) = true then (some x8) else (impl_Head_152.l0 k x0 x7 (wrap64 (x8 + 1)) x602000 x602001)) else (none)) else (none)) else (some (-1))
def impl_Head_152.f (k : Nat) (l0 : List (S37)) (a1_0 : Int) (a1_1 : ByteArray) : Option (Int) := impl_Head_152.l0 k l0 (l0.length : Int) 0 a1_0 a1_1
set_option maxHeartbeats 8000000 in
set_option maxRecDepth 100000 in
theorem impl_Head_152.calls (k : Nat) (A0 : Option Addr) (c0 : Nat) (l0 : List (S37)) (a1_0 : Int) (a1_1 : ByteArray) (r : Int) (w : World) (hr0 : Kd.C k37 w A0 l0.length l0) (hc0 : l0.length ≤ c0) (h : impl_Head_152.f k l0 a1_0 a1_1 = some r) :
  Calls Tryz.prog 152 #[.slice A0 l0.length c0, .agg #[.int .i64 a1_0, .string a1_1]] w fun e w' => e = .returned (.int .i64 r) ∧ Below w.heap.size w w' := by
 have hu37 := Tryz.underlying37
 have HR0 := Aside0.mk hr0
 have HC0 := Aside0.mk hc0
 clear hr0 hc0
 have HB := Aside0.mk (Below.refl w.heap.size w)
 have H : (impl_Head_152.l0 k l0 (l0.length : Int) 0 a1_0 a1_1) = some r := h
 clear h
 have H' := Aside0.mk H
 clear H
 go_enter Tryz.func152, Tryz.ntmps152
 go_wp2_with (first | ((with_reducible refine gd_ 3 ?_); refine bx_ 3 37 #[.int .i64 a1_0, .string a1_1] ?_; intro gb601 hg w3 hbox hb; have BK601 := Aside0.mk hbox; have GW601 := gg_ hg HB; have GE601 := GW601; replace HB := ss_ HB hb; clear hb hbox hg))
 repeat (go_quiet (first | ((with_reducible refine gd_ 3 ?_); refine bx_ 3 37 #[.int .i64 a1_0, .string a1_1] ?_; intro gb601 hg w3 hbox hb; have BK601 := Aside0.mk hbox; have GW601 := gg_ hg HB; have GE601 := gg_ hg HB; replace HB := ss_ HB hb; clear hb hbox hg)); try go_wp2_with (first | ((with_reducible refine gd_ 3 ?_); refine bx_ 3 37 #[.int .i64 a1_0, .string a1_1] ?_; intro gb601 hg w3 hbox hb; have BK601 := Aside0.mk hbox; have GW601 := gg_ hg HB; have GE601 := GW601; replace HB := ss_ HB hb; clear hb hbox hg)))
 go_loopg [8] k (fun kq v8 w' => ∃ (x8_1 : Int), v8 = .int .i64 x8_1 ∧ Aside0 (impl_Head_152.l0 kq l0 (l0.length : Int) x8_1 a1_0 a1_1 = some r) ∧ Aside0 (kq ≤ k) ∧ Aside0 (w'.heap[gb601]? = some (.cells #[.int .i64 a1_0, .string a1_1] 37 (0, 0))) ∧ Aside0 (Below w.heap.size w w'))
 case atStart => exact ⟨(0), e1_, H', ⟨Nat.le_refl _⟩, ⟨kb_ BK601.out⟩, ⟨bw_ HB⟩⟩
 case round =>
  clear H'
  obtain ⟨x8_1, rfl, HA, HK1, BK601, HB⟩ := hrel
  cases gk with
  | zero => exact absurd HA.out (by simp [impl_Head_152.l0])
  | succ k1 =>
   have H := HA.out
   clear HA
   simp only [impl_Head_152.l0] at H
   replace H := itd_ H; obtain ⟨c4b0, H⟩ | ⟨c4b0, H⟩ := H
   ·replace H := ipd_ H; obtain ⟨c5b0, H⟩ := H
    replace H := ipd_ H; obtain ⟨c6b0, H⟩ := H
    replace H := it_ H; obtain ⟨c7, H⟩ | ⟨c7, H⟩ := H
    ·have c7b0 : (a1_0 == ((rd_T37 l0 x8_1).f0) && (a1_1.toList == (((rd_T37 l0 x8_1).f1).toList))) = true := c7
     (try (have c7b1 : decide (a1_0 = ((rd_T37 l0 x8_1).f0) && (a1_1.toList == (((rd_T37 l0 x8_1).f1).toList))) = true := by simpa using c7))
     (try (have c7b2 : (a1_0 == ((rd_T37 l0 x8_1).f0) && (a1_1.toList == (((rd_T37 l0 x8_1).f1).toList))) = true := by simpa using c7))
     clear c7
     obtain rfl := Option.some.inj H
     have hz8 := cz2_ BK601
     have p602 : 0 ≤ (x8_1 : Int) := of_decide_eq_true as_
     have q602 : x8_1 < (l0.length : Int) := of_decide_eq_true as_
     obtain ⟨ad602, e602, hx602_0, hx602_1⟩ := at_T37 HR0.out x8_1 p602 q602
     cases e602
     replace hx602_0 := cw_ HB hx602_0
     replace hx602_1 := cw_ HB hx602_1
     replace p602 := eq_true p602
     replace q602 := eq_true q602
     go_wp2
     repeat (go_quiet (fail); try go_wp2)
     go_ret
     exact ⟨e2_, bw_ HB⟩
    ·have c7b0 : (a1_0 == ((rd_T37 l0 x8_1).f0) && (a1_1.toList == (((rd_T37 l0 x8_1).f1).toList))) = false := by simpa using c7
     (try (have c7b1 : decide (a1_0 = ((rd_T37 l0 x8_1).f0) && (a1_1.toList == (((rd_T37 l0 x8_1).f1).toList))) = false := by simpa using c7))
     (try (have c7b2 : (a1_0 == ((rd_T37 l0 x8_1).f0) && (a1_1.toList == (((rd_T37 l0 x8_1).f1).toList))) = false := by simpa using c7))
     (try (have c7b3 : ¬ (a1_0 = ((rd_T37 l0 x8_1).f0) && (a1_1.toList == (((rd_T37 l0 x8_1).f1).toList))) := by simpa using c7))
     clear c7
     have H' := Aside0.mk H
     clear H
     have hz9 := cz2_ BK601
     have p602 : 0 ≤ (x8_1 : Int) := of_decide_eq_true as_
     have q602 : x8_1 < (l0.length : Int) := of_decide_eq_true as_
     obtain ⟨ad602, e602, hx602_0, hx602_1⟩ := at_T37 HR0.out x8_1 p602 q602
     cases e602
     replace hx602_0 := cw_ HB hx602_0
     replace hx602_1 := cw_ HB hx602_1
     replace p602 := eq_true p602
     replace q602 := eq_true q602
     go_wp2
     repeat (go_quiet (fail); try go_wp2)
     go_roundg k1
     case measure => have := HK1.out; omega
     case rel => exact ⟨(wrap64 (x8_1 + 1)), e1_, H', ⟨by have := HK1.out; omega⟩, ⟨kb_ BK601.out⟩, ⟨bw_ HB⟩⟩
   ·obtain rfl := Option.some.inj H
    go_wp2
    repeat (go_quiet (fail); try go_wp2)
    go_ret
    exact ⟨e2_, bw_ HB⟩
end Go.Proofs.YtnlndmoecljicaaGreat.Q
end
section
namespace Go.Proofs.YtnlndmoecljicaaGreat.Q
open Go.RowKit Go.Proofs.YtnlndmoecljicaaGreatW.PrintWords Go.Proofs.YtnlndmoecljicaaGreatW.PrintLast Go.Proofs.YtnlndmoecljicaaGreatW.PrintMore
attribute [local go_sem] max2_int min2_int max_two min_two max_three min_three max_four min_four   -- for this text's walks alone
set_option linter.unusedVariables false
set_option linter.unusedSimpArgs false
def impl_Head_129.f (k : Nat) (l0 : List (S37)) (a1_0 : Int) (a1_1 : ByteArray) : Option (Bool) := (impl_Head_152.f k l0 a1_0 a1_1).bind fun t602 => (some (decide (t602 ≥ 0)))
set_option maxHeartbeats 8000000 in
set_option maxRecDepth 100000 in
theorem impl_Head_129.calls (k : Nat) (A0 : Option Addr) (c0 : Nat) (l0 : List (S37)) (a1_0 : Int) (a1_1 : ByteArray) (r : Bool) (w : World) (hr0 : Kd.C k37 w A0 l0.length l0) (hc0 : l0.length ≤ c0) (h : impl_Head_129.f k l0 a1_0 a1_1 = some r) :
  Calls Tryz.prog 129 #[.slice A0 l0.length c0, .agg #[.int .i64 a1_0, .string a1_1]] w fun e w' => e = .returned (.bool r) ∧ Below w.heap.size w w' := by
 have hu37 := Tryz.underlying37
 have HR0 := Aside0.mk hr0
 have HC0 := Aside0.mk hc0
 clear hr0 hc0
 have HB := Aside0.mk (Below.refl w.heap.size w)
 have H : ((impl_Head_152.f k l0 a1_0 a1_1).bind fun t602 => (some (decide (t602 ≥ 0)))) = some r := h
 clear h
 replace H := bi_ H; obtain ⟨t602, A3, H⟩ := H
 obtain rfl := Option.some.inj H
 go_enter Tryz.func129, Tryz.ntmps129
 go_wp2_with (first | ((with_reducible refine gd_ 3 ?_); refine bx_ 3 37 #[.int .i64 a1_0, .string a1_1] ?_; intro gb601 hg w4 hbox hb; have BK601 := Aside0.mk hbox; have GW601 := gg_ hg HB; have GE601 := GW601; replace HB := ss_ HB hb; clear hb hbox hg; have hz5 := cz2_ BK601) | ((with_reducible refine gq_ 152 7 ?_); refine gc_ 7 Tryz.func152 (impl_Head_152.calls k _ _ l0 a1_0 a1_1 t602 _ (cb_ HR0 HB) HC0.out A3.out) ?_; rintro e w6 ⟨rfl, hb⟩; refine ⟨_, rfl, ?_⟩; replace BK601 := kl_ BK601 hb; replace HB := ss_ HB hb; clear hb))
 go_ret
 exact ⟨e2_, bw_ HB⟩
def impl_IsSigned.f (k : Nat) (l0 : List (S37)) (a1_0 : Int) (a1_1 : ByteArray) : Option (Bool) := (impl_Head_129.f k l0 a1_0 a1_1).bind fun t602 => (some t602)
set_option maxHeartbeats 8000000 in
set_option maxRecDepth 100000 in
theorem impl_IsSigned.calls (k : Nat) (A0 : Option Addr) (c0 : Nat) (l0 : List (S37)) (a1_0 : Int) (a1_1 : ByteArray) (r : Bool) (w : World) (hr0 : Kd.C k37 w A0 l0.length l0) (hc0 : l0.length ≤ c0) (h : impl_IsSigned.f k l0 a1_0 a1_1 = some r) :
  Calls Tryz.prog 96 #[.slice A0 l0.length c0, .agg #[.int .i64 a1_0, .string a1_1]] w fun e w' => e = .returned (.bool r) ∧ Below w.heap.size w w' := by
 have hu37 := Tryz.underlying37
 have HR0 := Aside0.mk hr0
 have HC0 := Aside0.mk hc0
 clear hr0 hc0
 have HB := Aside0.mk (Below.refl w.heap.size w)
 have H : ((impl_Head_129.f k l0 a1_0 a1_1).bind fun t602 => (some t602)) = some r := h
 clear h
 replace H := bi_ H; obtain ⟨t602, A3, H⟩ := H
 obtain rfl := Option.some.inj H
 go_enter Tryz.func96, Tryz.ntmps96
 go_wp2_with (first | ((with_reducible refine gd_ 3 ?_); refine bx_ 3 37 #[.int .i64 a1_0, .string a1_1] ?_; intro gb601 hg w4 hbox hb; have BK601 := Aside0.mk hbox; have GW601 := gg_ hg HB; have GE601 := GW601; replace HB := ss_ HB hb; clear hb hbox hg; have hz5 := cz2_ BK601) | ((with_reducible refine gq_ 129 7 ?_); refine gc_ 7 Tryz.func129 (impl_Head_129.calls k _ _ l0 a1_0 a1_1 t602 _ (cb_ HR0 HB) HC0.out A3.out) ?_; rintro e w6 ⟨rfl, hb⟩; refine ⟨_, rfl, ?_⟩; replace BK601 := kl_ BK601 hb; replace HB := ss_ HB hb; clear hb))
 go_ret
 exact ⟨e2_, bw_ HB⟩
end Go.Proofs.YtnlndmoecljicaaGreat.Q
end
section
namespace Go.Proofs.YtnlndmoecljicaaGreat.Q
open Go.RowKit Go.Proofs.YtnlndmoecljicaaGreat.B Go.Proofs.YtnlndmoecljicaaGreatW.PrintWords
def hasHead (l : List IHead) (a : Int) (b : ByteArray) : Bool := l.any fun x => x.f0 == a && (x.f1.toList == b.toList)
theorem rdI {l : List IHead} {i : Nat} {x : IHead} (h : l[i]? = some x) : rd_T37 l (i : Int) = x := by
 unfold rd_T37
 simp [List.getD_eq_getElem?_getD, h]
theorem next64 {i n : Nat} (h : i < n) (hn : n ≤ 9223372036854775807) : wrap64 ((i : Int) + 1) = ((i + 1 : Nat) : Int) := by
 rw [w64 (by omega) (by omega)]
 omega
theorem spec_IsSigned_ev (l : List IHead) (a : Int) (b : ByteArray) (hl : l.length ≤ 9223372036854775807) : Ev (fun k => spec_IsSigned.f k l a b) (hasHead l a b) := by
 have main : ∀ (d i : Nat), i + d = l.length → Ev (fun k => spec_IsSigned.l0 k l (i : Int) a b) (hasHead (l.drop i) a b) := by
  intro d
  induction d with
  | zero =>
   intro i hi
   refine Ev.step (f := fun _ => some false) (fun k => ?_) (Ev.one (Ev.now _) ?_)
   ·simp only [spec_IsSigned.l0]
    rw [if_neg (by omega)]
   ·rw [List.drop_of_length_le (by omega)]
    rfl
  | succ d ih =>
   intro i hi
   obtain ⟨x, hx⟩ := get_some (l := l) (i := i) (by omega)
   by_cases h : (x.f0 == a && (x.f1.toList == b.toList)) = true
   ·refine Ev.step (f := fun _ => some true) (fun k => ?_) (Ev.one (Ev.now _) ?_)
    ·simp only [spec_IsSigned.l0]
     rw [if_pos (by omega), if_pos (by omega), rdI hx, if_pos h]
    ·rw [drop_one hx]
     simp only [hasHead, List.any_cons, h, Bool.true_or]
   ·refine Ev.step (fun k => ?_) (Ev.one (ih (i + 1) (by omega)) ?_)
    ·simp only [spec_IsSigned.l0]
     rw [if_pos (by omega), if_pos (by omega), rdI hx, if_neg h, next64 (show i < l.length by omega) hl]
    ·rw [drop_one hx]
     simp only [hasHead, List.any_cons, Bool.eq_false_iff.mpr h, Bool.false_or]
 exact main l.length 0 (by omega)
theorem impl_Index_ev (l : List IHead) (a : Int) (b : ByteArray) (hl : l.length ≤ 9223372036854775807) : ∃ r, Ev (fun k => impl_Head_152.f k l a b) r ∧ decide (r ≥ 0) = hasHead l a b := by
 have main : ∀ (d i : Nat), i + d = l.length → ∃ r, Ev (fun k => impl_Head_152.l0 k l (l.length : Int) (i : Int) a b) r ∧ decide (r ≥ 0) = hasHead (l.drop i) a b := by
  intro d
  induction d with
  | zero =>
   intro i hi
   refine ⟨-1, Ev.step (f := fun _ => some (-1)) (fun k => ?_) (Ev.now _), ?_⟩
   ·simp only [impl_Head_152.l0]
    rw [if_neg (by omega)]
   ·rw [List.drop_of_length_le (by omega)]
    rfl
  | succ d ih =>
   intro i hi
   obtain ⟨x, hx⟩ := get_some (l := l) (i := i) (by omega)
   have hsym : (a == x.f0 && (b.toList == x.f1.toList)) = (x.f0 == a && (x.f1.toList == b.toList)) := by
    rw [Bool.beq_comm (a := a), Bool.beq_comm (a := b.toList)]
   by_cases h : (x.f0 == a && (x.f1.toList == b.toList)) = true
   ·refine ⟨(i : Int), Ev.step (f := fun _ => some (i : Int)) (fun k => ?_) (Ev.now _), ?_⟩
    ·simp only [impl_Head_152.l0]
     rw [if_pos (by omega), if_pos (by omega), if_pos (by omega), rdI hx, hsym, if_pos h]
    ·rw [drop_one hx]
     simp only [hasHead, List.any_cons, h, Bool.true_or]
     exact decide_eq_true (by omega)
   ·obtain ⟨r, h1, h2⟩ := ih (i + 1) (by omega)
    refine ⟨r, Ev.step (fun k => ?_) h1, ?_⟩
    ·simp only [impl_Head_152.l0]
     rw [if_pos (by omega), if_pos (by omega), if_pos (by omega), rdI hx, hsym, if_neg h, next64 (show i < l.length by omega) hl]
    ·rw [h2, drop_one hx]
     simp only [hasHead, List.any_cons, Bool.eq_false_iff.mpr h, Bool.false_or]
 obtain ⟨r, h1, h2⟩ := main l.length 0 (by omega)
 exact ⟨r, h1, h2⟩
theorem impl_IsSigned_ev (l : List IHead) (a : Int) (b : ByteArray) (hl : l.length ≤ 9223372036854775807) : Ev (fun k => impl_IsSigned.f k l a b) (hasHead l a b) := by
 obtain ⟨r, h1, h2⟩ := impl_Index_ev l a b hl
 refine Ev.congr (fun k => by unfold impl_IsSigned.f impl_Head_129.f; rfl) ?_
 refine Ev.bind (Ev.bind h1 (Ev.now _)) ?_
 rw [h2]
 exact Ev.now _
end Go.Proofs.YtnlndmoecljicaaGreat.Q
end
section
namespace Go.Proofs.YtnlndmoecljicaaGreat.Q
open Go.RowKit Go.Proofs.YtnlndmoecljicaaGreatW.PrintWords Go.Proofs.YtnlndmoecljicaaGreatW.PrintLast Go.Proofs.YtnlndmoecljicaaGreatW.PrintMore
attribute [local go_sem] max2_int min2_int max_two min_two max_three min_three max_four min_four   -- for this text's walks alone
set_option linter.unusedVariables false
set_option linter.unusedSimpArgs false
attribute [local go_sem high] eqA37
def spec_l14Known.f (k : Nat) (l0 : List (S37)) (a1_0 : Int) (a1_1 : ByteArray) : Option (Bool) := (spec_HeadOf.f k (([] : List ByteArray))).bind fun bt605 => (if (a1_0 == bt605.1 && (a1_1.toList == bt605.2.toList)) = true then (some true) else ((spec_IsSigned.f k l0 a1_0 a1_1).bind fun t607 => (some t607)))
def spec_l14Known.T1 : Bool × List (List Nat × List Nat) := (true, [([], []), ([], []), ([1], [1]), ([0, 2], [0, 2]), ([3, 2], [3]), ([4], [4]), ([4], [4]), ([5, 6, 4, 4], [4, 5, 6]), ([4, 7], [4, 7]), ([8, 7, 0, 1, 2, 3, 4, 5, 6, 7, 8], [8])])
def spec_l14Known.B1 : List Nat := [0, 0, 2, 7, 15, 31, 31, 127, 255, 511]
theorem spec_l14Known.tab1 : rtab .any (opsOf Tryz.f75 1) = spec_l14Known.T1 := by kernel_rfl
theorem spec_l14Known.bits1 : waitsOk spec_l14Known.T1.2 spec_l14Known.B1 = true := by kernel_rfl
set_option maxHeartbeats 8000000 in
set_option maxRecDepth 100000 in
theorem spec_l14Known.calls (k : Nat) (A0 : Option Addr) (c0 : Nat) (l0 : List (S37)) (a1_0 : Int) (a1_1 : ByteArray) (r : Bool) (w : World) (hr0 : Kd.C k37 w A0 l0.length l0) (hc0 : l0.length ≤ c0) (h : spec_l14Known.f k l0 a1_0 a1_1 = some r) :
  Calls Tryz.prog 75 #[.slice A0 l0.length c0, .agg #[.int .i64 a1_0, .string a1_1]] w fun e w' => e = .returned (.bool r) ∧ Below w.heap.size w w' := by
 have hu37 := Tryz.underlying37
 have HR0 := Aside0.mk hr0
 have HC0 := Aside0.mk hc0
 clear hr0 hc0
 have HB := Aside0.mk (Below.refl w.heap.size w)
 have H : ((spec_HeadOf.f k (([] : List ByteArray))).bind fun bt605 => (if (a1_0 == bt605.1 && (a1_1.toList == bt605.2.toList)) = true then (some true) else ((spec_IsSigned.f k l0 a1_0 a1_1).bind fun t607 => (some t607)))) = some r := h
 clear h
 obtain ⟨y602, hy602⟩ : ∃ y_ : List ByteArray, y_ = (([] : List ByteArray)) := ⟨_, rfl⟩
 replace H : ((spec_HeadOf.f k y602).bind fun bt605 => (if (a1_0 == bt605.1 && (a1_1.toList == bt605.2.toList)) = true then (some true) else ((spec_IsSigned.f k l0 a1_0 a1_1).bind fun t607 => (some t607)))) = some r := yh_ hy602 H
 have Ny602 := Aside0.mk hy602
 clear hy602
 replace H := bi_ H; obtain ⟨⟨t605, t606⟩, A3, H⟩ := H
 dsimp only at H
 replace H := it_ H; obtain ⟨c4, H⟩ | ⟨c4, H⟩ := H
 ·have c4b0 : (a1_0 == t605 && (a1_1.toList == t606.toList)) = true := c4
  (try (have c4b1 : decide (a1_0 = t605 && (a1_1.toList == t606.toList)) = true := by simpa using c4))
  (try (have c4b2 : (a1_0 == t605 && (a1_1.toList == t606.toList)) = true := by simpa using c4))
  clear c4
  obtain rfl := Option.some.inj H
  go_enter Tryz.func75, Tryz.ntmps75
  try go_wp2_with (first | ((with_reducible refine gd_ 3 ?_); refine bx_ 3 37 #[.int .i64 a1_0, .string a1_1] ?_; intro gb601 hg w5 hbox hb; have BK601 := Aside0.mk hbox; have GW601 := gg_ hg HB; have GE601 := GW601; replace HB := ss_ HB hb; clear hb hbox hg))
  replace BK601 := Aside0.mk (blk_drew BK601.out)
  replace HB := Aside0.mk (below_drew1 HB.out)
  refine start_ (n := 10) (S := fun w' => w'.cell? ⟨gb601, 0, none⟩ = some (.int .i64 a1_0) ∧ w'.cell? ⟨gb601, 1, none⟩ = some (.string a1_1)) (ds := []) (lz_ 10 0) (by kernel_rfl) rfl rfl ⟨bc0_ BK601.out, bc1_ BK601.out⟩ (fun hHeld => ?_); refine with_tabW spec_l14Known.tab1 spec_l14Known.bits1 (fun HT_ HW_ => ?_)
  generalize w5.drew = w6 at BK601 HB hHeld ⊢
  refine tt_ 0 5 1 ?_
  refine one_ (i := 1) (N := some 6) (lz_ 10 3) rfl rfl (one_of HT_.out (by kernel_rfl)) (by decide) (fun K hK => ?_)
  refine Kd.R_lit_step Kd.string _ 9 ?hg (N := 6) ?hd (xs := ([] : List ByteArray)) (inner := []) (ok := fun _ => True) (okp := fun _ => True) ?hr ?hp (fun _ hk => hk) trivial (Below.refl _ _) (Nat.le_refl _) (by simp) ?_; (case hd => rfl); (case hg => rfl); (case hr => first | (go_simp; done) | (go_simp; rfl)); (case hp => exact (Reps.none _ _))
  intro v603 w7 ho8 hb hg_ hnew_
  clear hg_ hnew_
  (first | rw [← Ny602.out] at ho8 | (simp only [Int.reduceToNat] at ho8; rw [← Ny602.out] at ho8))
  have HO604 := Aside0.mk (Kd.R_lower ho8 (sz_ HB))
  replace BK601 := kl_ BK601 hb
  replace HB := ss_ HB hb
  clear hb ho8
  obtain ⟨Ao9, co9, eo9⟩ := Kd.R_slice HO604.out
  (first | subst eo9 | (injection eo9 with f1_ f2_ f3_; have f4_ := f1_.symm; have f5_ := f3_.symm; clear f1_ f2_ f3_; subst f4_; subst f5_))
  refine hK.out _ _ ⟨bc0_ BK601.out, bc1_ BK601.out⟩ (fun hHeld => ?_)
  clear hK K
  refine no_ 6 ?_
  refine one_ (i := 2) (N := some 7) (lz_ 10 7) rfl rfl (one_of HT_.out (by kernel_rfl)) (by decide) (fun K hK => ?_)
  refine gf_ Tryz.func110 (spec_HeadOf.calls k _ _ y602 t605 t606 _ (ch_ HO604) (cl_ HO604) A3.out) ?_
  rintro e w10 ⟨rfl, hb⟩
  refine ⟨_, rfl, ?_⟩
  replace HO604 := rb_ HO604 hb
  replace BK601 := kl_ BK601 hb
  replace HB := ss_ HB hb
  clear hb
  refine hK.out _ _ ⟨bc0_ BK601.out, bc1_ BK601.out⟩ (fun hHeld => ?_)
  clear hK K
  refine no_ 7 ?_
  refine pt_ 3 8 15 ?_
  refine pt_ 4 9 31 ?_
  refine ut_ 5 10 63 ?_
  refine ut_ 6 11 127 ?_
  refine ut_ 7 12 255 ?_
  refine pt_ 8 13 511 ?_
  refine pt_ 9 4 1023 ?_
  refine done_ (done_of HT_.out (by kernel_rfl)) ?_
  try go_wp2
  go_ret
  exact ⟨e2_, bw_ HB⟩
 ·have c4b0 : (a1_0 == t605 && (a1_1.toList == t606.toList)) = false := by simpa using c4
  (try (have c4b1 : decide (a1_0 = t605 && (a1_1.toList == t606.toList)) = false := by simpa using c4))
  (try (have c4b2 : (a1_0 == t605 && (a1_1.toList == t606.toList)) = false := by simpa using c4))
  (try (have c4b3 : ¬ (a1_0 = t605 && (a1_1.toList == t606.toList)) := by simpa using c4))
  clear c4
  replace H := bi_ H; obtain ⟨t607, A11, H⟩ := H
  obtain rfl := Option.some.inj H
  go_enter Tryz.func75, Tryz.ntmps75
  try go_wp2_with (first | ((with_reducible refine gd_ 3 ?_); refine bx_ 3 37 #[.int .i64 a1_0, .string a1_1] ?_; intro gb601 hg w12 hbox hb; have BK601 := Aside0.mk hbox; have GW601 := gg_ hg HB; have GE601 := GW601; replace HB := ss_ HB hb; clear hb hbox hg))
  replace BK601 := Aside0.mk (blk_drew BK601.out)
  replace HB := Aside0.mk (below_drew1 HB.out)
  refine start_ (n := 10) (S := fun w' => w'.cell? ⟨gb601, 0, none⟩ = some (.int .i64 a1_0) ∧ w'.cell? ⟨gb601, 1, none⟩ = some (.string a1_1)) (ds := []) (lz_ 10 0) (by kernel_rfl) rfl rfl ⟨bc0_ BK601.out, bc1_ BK601.out⟩ (fun hHeld => ?_); refine with_tabW spec_l14Known.tab1 spec_l14Known.bits1 (fun HT_ HW_ => ?_)
  generalize w12.drew = w13 at BK601 HB hHeld ⊢
  refine tt_ 0 5 1 ?_
  refine one_ (i := 1) (N := some 6) (lz_ 10 3) rfl rfl (one_of HT_.out (by kernel_rfl)) (by decide) (fun K hK => ?_)
  refine Kd.R_lit_step Kd.string _ 9 ?hg (N := 6) ?hd (xs := ([] : List ByteArray)) (inner := []) (ok := fun _ => True) (okp := fun _ => True) ?hr ?hp (fun _ hk => hk) trivial (Below.refl _ _) (Nat.le_refl _) (by simp) ?_; (case hd => rfl); (case hg => rfl); (case hr => first | (go_simp; done) | (go_simp; rfl)); (case hp => exact (Reps.none _ _))
  intro v603 w14 ho15 hb hg_ hnew_
  clear hg_ hnew_
  (first | rw [← Ny602.out] at ho15 | (simp only [Int.reduceToNat] at ho15; rw [← Ny602.out] at ho15))
  have HO604 := Aside0.mk (Kd.R_lower ho15 (sz_ HB))
  replace BK601 := kl_ BK601 hb
  replace HB := ss_ HB hb
  clear hb ho15
  obtain ⟨Ao16, co16, eo16⟩ := Kd.R_slice HO604.out
  (first | subst eo16 | (injection eo16 with f1_ f2_ f3_; have f4_ := f1_.symm; have f5_ := f3_.symm; clear f1_ f2_ f3_; subst f4_; subst f5_))
  refine hK.out _ _ ⟨bc0_ BK601.out, bc1_ BK601.out⟩ (fun hHeld => ?_)
  clear hK K
  refine no_ 6 ?_
  refine one_ (i := 2) (N := some 7) (lz_ 10 7) rfl rfl (one_of HT_.out (by kernel_rfl)) (by decide) (fun K hK => ?_)
  refine gf_ Tryz.func110 (spec_HeadOf.calls k _ _ y602 t605 t606 _ (ch_ HO604) (cl_ HO604) A3.out) ?_
  rintro e w17 ⟨rfl, hb⟩
  refine ⟨_, rfl, ?_⟩
  replace HO604 := rb_ HO604 hb
  replace BK601 := kl_ BK601 hb
  replace HB := ss_ HB hb
  clear hb
  refine hK.out _ _ ⟨bc0_ BK601.out, bc1_ BK601.out⟩ (fun hHeld => ?_)
  clear hK K
  refine no_ 7 ?_
  refine pt_ 3 8 15 ?_
  refine pt_ 4 9 31 ?_
  refine pt_ 5 10 63 ?_
  refine tt_ 6 11 127 ?_
  refine one_ (i := 7) (N := some 12) (lz_ 10 255) rfl rfl (one_of HT_.out (by kernel_rfl)) (by decide) (fun K hK => ?_)
  refine gf_ Tryz.func111 (spec_IsSigned.calls k _ _ l0 a1_0 a1_1 t607 _ (cb_ HR0 HB) HC0.out A11.out) ?_
  rintro e w18 ⟨rfl, hb⟩
  refine ⟨_, rfl, ?_⟩
  replace HO604 := rb_ HO604 hb
  replace BK601 := kl_ BK601 hb
  replace HB := ss_ HB hb
  clear hb
  refine hK.out _ _ ⟨bc0_ BK601.out, bc1_ BK601.out⟩ (fun hHeld => ?_)
  clear hK K
  refine no_ 12 ?_
  refine pt_ 8 13 511 ?_
  refine pt_ 9 4 1023 ?_
  refine done_ (done_of HT_.out (by kernel_rfl)) ?_
  try go_wp2
  go_ret
  exact ⟨e2_, bw_ HB⟩
end Go.Proofs.YtnlndmoecljicaaGreat.Q
end
section
namespace Go.Proofs.YtnlndmoecljicaaGreat.Q
open Go.RowKit Go.Proofs.YtnlndmoecljicaaGreatW.PrintWords Go.Proofs.YtnlndmoecljicaaGreatW.PrintLast Go.Proofs.YtnlndmoecljicaaGreatW.PrintMore
attribute [local go_sem] max2_int min2_int max_two min_two max_three min_three max_four min_four   -- for this text's walks alone
set_option linter.unusedVariables false
set_option linter.unusedSimpArgs false
def spec_MirrorOk.f (k : Nat) (a0_0 : Int) (l0_1 : List ByteArray) (a0_2 : Int) (a0_3 : ByteArray) (l0_4 : List Int) (a0_5 : Int) (a0_6 : Int) (a0_7 : ByteArray) (l1 : List (S37)) : Option (Bool) := (spec_l1In.f a0_0 0 20).bind fun t602 => (if t602 = true then ((spec_StoreOk.f k l0_1 a0_2 a0_3 l0_4 a0_5).bind fun t603 => (if t603 = true then ((spec_HeadOk.f a0_6 a0_7).bind fun t604 => (if t604 = true then ((spec_l14Known.f k l1 a0_6 a0_7).bind fun t605 => (if t605 = true then ((spec_l14Known.f k l1 a0_2 a0_3).bind fun t606 => (some t606)) else (some false))) else (some false))) else (some false))) else (some false))
set_option maxHeartbeats 8000000 in
set_option maxRecDepth 100000 in
theorem spec_MirrorOk.calls (k : Nat) (a0_0 : Int) (A0_1 : Option Addr) (c0_1 : Nat) (l0_1 : List ByteArray) (a0_2 : Int) (a0_3 : ByteArray) (A0_4 : Option Addr) (c0_4 : Nat) (l0_4 : List Int) (a0_5 : Int) (a0_6 : Int) (a0_7 : ByteArray) (A1 : Option Addr) (c1 : Nat) (l1 : List (S37)) (r : Bool) (w : World) (hr0_1 : Kd.C Kd.string w A0_1 l0_1.length l0_1) (hc0_1 : l0_1.length ≤ c0_1) (hr0_4 : Kd.C (Kd.int .u8) w A0_4 l0_4.length l0_4) (hc0_4 : l0_4.length ≤ c0_4) (hr1 : Kd.C k37 w A1 l1.length l1) (hc1 : l1.length ≤ c1) (h : spec_MirrorOk.f k a0_0 l0_1 a0_2 a0_3 l0_4 a0_5 a0_6 a0_7 l1 = some r) :
  Calls Tryz.prog 39 #[.agg #[.int .i64 a0_0, .slice A0_1 l0_1.length c0_1, .int .i64 a0_2, .string a0_3, .slice A0_4 l0_4.length c0_4, .int .i64 a0_5, .int .i64 a0_6, .string a0_7], .slice A1 l1.length c1] w fun e w' => e = .returned (.bool r) ∧ Below w.heap.size w w' := by
 have hu43 := Tryz.underlying43
 have hu41 := Tryz.underlying41
 have hu37 := Tryz.underlying37
 have HR0_1 := Aside0.mk hr0_1
 have HC0_1 := Aside0.mk hc0_1
 clear hr0_1 hc0_1
 have HR0_4 := Aside0.mk hr0_4
 have HC0_4 := Aside0.mk hc0_4
 clear hr0_4 hc0_4
 have HR1 := Aside0.mk hr1
 have HC1 := Aside0.mk hc1
 clear hr1 hc1
 have HB := Aside0.mk (Below.refl w.heap.size w)
 have H : ((spec_l1In.f a0_0 0 20).bind fun t602 => (if t602 = true then ((spec_StoreOk.f k l0_1 a0_2 a0_3 l0_4 a0_5).bind fun t603 => (if t603 = true then ((spec_HeadOk.f a0_6 a0_7).bind fun t604 => (if t604 = true then ((spec_l14Known.f k l1 a0_6 a0_7).bind fun t605 => (if t605 = true then ((spec_l14Known.f k l1 a0_2 a0_3).bind fun t606 => (some t606)) else (some false))) else (some false))) else (some false))) else (some false))) = some r := h
 clear h
 replace H := bi_ H; obtain ⟨t602, A3, H⟩ := H
 replace H := itb_ H; obtain ⟨rfl, H⟩ | ⟨rfl, H⟩ := H
 ·replace H := bi_ H; obtain ⟨t603, A5, H⟩ := H
  replace H := itb_ H; obtain ⟨rfl, H⟩ | ⟨rfl, H⟩ := H
  ·replace H := bi_ H; obtain ⟨t604, A7, H⟩ := H
   replace H := itb_ H; obtain ⟨rfl, H⟩ | ⟨rfl, H⟩ := H
   ·replace H := bi_ H; obtain ⟨t605, A9, H⟩ := H
    replace H := itb_ H; obtain ⟨rfl, H⟩ | ⟨rfl, H⟩ := H
    ·replace H := bi_ H; obtain ⟨t606, A11, H⟩ := H
     obtain rfl := Option.some.inj H
     go_enter Tryz.func39, Tryz.ntmps39
     go_wp2_with (first | ((with_reducible refine gd_ 2 ?_); refine bx_ 2 43 #[.int .i64 a0_0, .slice A0_1 l0_1.length c0_1, .int .i64 a0_2, .string a0_3, .slice A0_4 l0_4.length c0_4, .int .i64 a0_5, .int .i64 a0_6, .string a0_7] ?_; intro gb601 hg w12 hbox hb; have BK601 := Aside0.mk hbox; have GW601 := gg_ hg HB; have GE601 := GW601; replace HB := ss_ HB hb; clear hb hbox hg; have hcz13 := cz8_ BK601) | ((with_reducible refine gq_ 72 7 ?_); refine gc_ 7 Tryz.func72 (spec_l1In.calls a0_0 0 20 true _ A3.out) ?_; rintro e w' ⟨rfl, ⟨nd, rfl⟩⟩; refine ⟨_, rfl, ?_⟩) | (go_at_call 73; (with_reducible refine (spec_StoreOk.calls k _ _ l0_1 a0_2 a0_3 _ _ l0_4 a0_5 true _ ?side1 ?side2 ?side3 ?side4 A5.out).mono ?_); (case side1 => exact cr_ (Kd.C_below HR0_1.out (bw_ HB))); (case side2 => exact HC0_1.out); (case side3 => exact cr_ (Kd.C_below HR0_4.out (bw_ HB))); (case side4 => exact HC0_4.out); rintro e w14 ⟨rfl, hb⟩; replace BK601 := kl_ BK601 hb; replace HB := ss_ HB hb; clear hb; have hcz15 := cz8_ BK601) | (go_at_call 74; (with_reducible refine (spec_HeadOk.calls a0_6 a0_7 true _ A7.out).mono ?_); rintro e w16 ⟨rfl, hb⟩; replace BK601 := kl_ BK601 hb; replace HB := ss_ HB hb; clear hb; have hcz17 := cz8_ BK601) | (go_at_call 75; (with_reducible refine (spec_l14Known.calls k _ _ l1 a0_6 a0_7 true _ ?side1 ?side2 A9.out).mono ?_); (case side1 => exact cb_ HR1 HB); (case side2 => exact HC1.out); rintro e w18 ⟨rfl, hb⟩; replace BK601 := kl_ BK601 hb; replace HB := ss_ HB hb; clear hb; have hcz19 := cz8_ BK601) | (go_at_call 75; (with_reducible refine (spec_l14Known.calls k _ _ l1 a0_2 a0_3 t606 _ ?side1 ?side2 A11.out).mono ?_); (case side1 => exact cb_ HR1 HB); (case side2 => exact HC1.out); rintro e w20 ⟨rfl, hb⟩; replace BK601 := kl_ BK601 hb; replace HB := ss_ HB hb; clear hb))
     go_ret
     exact ⟨e2_, bw_ HB⟩
    ·obtain rfl := Option.some.inj H
     go_enter Tryz.func39, Tryz.ntmps39
     go_wp2_with (first | ((with_reducible refine gd_ 2 ?_); refine bx_ 2 43 #[.int .i64 a0_0, .slice A0_1 l0_1.length c0_1, .int .i64 a0_2, .string a0_3, .slice A0_4 l0_4.length c0_4, .int .i64 a0_5, .int .i64 a0_6, .string a0_7] ?_; intro gb601 hg w21 hbox hb; have BK601 := Aside0.mk hbox; have GW601 := gg_ hg HB; have GE601 := GW601; replace HB := ss_ HB hb; clear hb hbox hg; have hcz22 := cz8_ BK601) | ((with_reducible refine gq_ 72 7 ?_); refine gc_ 7 Tryz.func72 (spec_l1In.calls a0_0 0 20 true _ A3.out) ?_; rintro e w' ⟨rfl, ⟨nd, rfl⟩⟩; refine ⟨_, rfl, ?_⟩) | (go_at_call 73; (with_reducible refine (spec_StoreOk.calls k _ _ l0_1 a0_2 a0_3 _ _ l0_4 a0_5 true _ ?side1 ?side2 ?side3 ?side4 A5.out).mono ?_); (case side1 => exact cr_ (Kd.C_below HR0_1.out (bw_ HB))); (case side2 => exact HC0_1.out); (case side3 => exact cr_ (Kd.C_below HR0_4.out (bw_ HB))); (case side4 => exact HC0_4.out); rintro e w23 ⟨rfl, hb⟩; replace BK601 := kl_ BK601 hb; replace HB := ss_ HB hb; clear hb; have hcz24 := cz8_ BK601) | (go_at_call 74; (with_reducible refine (spec_HeadOk.calls a0_6 a0_7 true _ A7.out).mono ?_); rintro e w25 ⟨rfl, hb⟩; replace BK601 := kl_ BK601 hb; replace HB := ss_ HB hb; clear hb; have hcz26 := cz8_ BK601) | (go_at_call 75; (with_reducible refine (spec_l14Known.calls k _ _ l1 a0_6 a0_7 false _ ?side1 ?side2 A9.out).mono ?_); (case side1 => exact cb_ HR1 HB); (case side2 => exact HC1.out); rintro e w27 ⟨rfl, hb⟩; replace BK601 := kl_ BK601 hb; replace HB := ss_ HB hb; clear hb))
     go_ret
     exact ⟨e2_, bw_ HB⟩
   ·obtain rfl := Option.some.inj H
    go_enter Tryz.func39, Tryz.ntmps39
    go_wp2_with (first | ((with_reducible refine gd_ 2 ?_); refine bx_ 2 43 #[.int .i64 a0_0, .slice A0_1 l0_1.length c0_1, .int .i64 a0_2, .string a0_3, .slice A0_4 l0_4.length c0_4, .int .i64 a0_5, .int .i64 a0_6, .string a0_7] ?_; intro gb601 hg w28 hbox hb; have BK601 := Aside0.mk hbox; have GW601 := gg_ hg HB; have GE601 := GW601; replace HB := ss_ HB hb; clear hb hbox hg; have hcz29 := cz8_ BK601) | ((with_reducible refine gq_ 72 7 ?_); refine gc_ 7 Tryz.func72 (spec_l1In.calls a0_0 0 20 true _ A3.out) ?_; rintro e w' ⟨rfl, ⟨nd, rfl⟩⟩; refine ⟨_, rfl, ?_⟩) | (go_at_call 73; (with_reducible refine (spec_StoreOk.calls k _ _ l0_1 a0_2 a0_3 _ _ l0_4 a0_5 true _ ?side1 ?side2 ?side3 ?side4 A5.out).mono ?_); (case side1 => exact cr_ (Kd.C_below HR0_1.out (bw_ HB))); (case side2 => exact HC0_1.out); (case side3 => exact cr_ (Kd.C_below HR0_4.out (bw_ HB))); (case side4 => exact HC0_4.out); rintro e w30 ⟨rfl, hb⟩; replace BK601 := kl_ BK601 hb; replace HB := ss_ HB hb; clear hb; have hcz31 := cz8_ BK601) | (go_at_call 74; (with_reducible refine (spec_HeadOk.calls a0_6 a0_7 false _ A7.out).mono ?_); rintro e w32 ⟨rfl, hb⟩; replace BK601 := kl_ BK601 hb; replace HB := ss_ HB hb; clear hb))
    go_ret
    exact ⟨e2_, bw_ HB⟩
  ·obtain rfl := Option.some.inj H
   go_enter Tryz.func39, Tryz.ntmps39
   go_wp2_with (first | ((with_reducible refine gd_ 2 ?_); refine bx_ 2 43 #[.int .i64 a0_0, .slice A0_1 l0_1.length c0_1, .int .i64 a0_2, .string a0_3, .slice A0_4 l0_4.length c0_4, .int .i64 a0_5, .int .i64 a0_6, .string a0_7] ?_; intro gb601 hg w33 hbox hb; have BK601 := Aside0.mk hbox; have GW601 := gg_ hg HB; have GE601 := GW601; replace HB := ss_ HB hb; clear hb hbox hg; have hcz34 := cz8_ BK601) | ((with_reducible refine gq_ 72 7 ?_); refine gc_ 7 Tryz.func72 (spec_l1In.calls a0_0 0 20 true _ A3.out) ?_; rintro e w' ⟨rfl, ⟨nd, rfl⟩⟩; refine ⟨_, rfl, ?_⟩) | (go_at_call 73; (with_reducible refine (spec_StoreOk.calls k _ _ l0_1 a0_2 a0_3 _ _ l0_4 a0_5 false _ ?side1 ?side2 ?side3 ?side4 A5.out).mono ?_); (case side1 => exact cr_ (Kd.C_below HR0_1.out (bw_ HB))); (case side2 => exact HC0_1.out); (case side3 => exact cr_ (Kd.C_below HR0_4.out (bw_ HB))); (case side4 => exact HC0_4.out); rintro e w35 ⟨rfl, hb⟩; replace BK601 := kl_ BK601 hb; replace HB := ss_ HB hb; clear hb))
   go_ret
   exact ⟨e2_, bw_ HB⟩
 ·obtain rfl := Option.some.inj H
  go_enter Tryz.func39, Tryz.ntmps39
  go_wp2_with (first | ((with_reducible refine gd_ 2 ?_); refine bx_ 2 43 #[.int .i64 a0_0, .slice A0_1 l0_1.length c0_1, .int .i64 a0_2, .string a0_3, .slice A0_4 l0_4.length c0_4, .int .i64 a0_5, .int .i64 a0_6, .string a0_7] ?_; intro gb601 hg w36 hbox hb; have BK601 := Aside0.mk hbox; have GW601 := gg_ hg HB; have GE601 := GW601; replace HB := ss_ HB hb; clear hb hbox hg; have hcz37 := cz8_ BK601) | ((with_reducible refine gq_ 72 7 ?_); refine gc_ 7 Tryz.func72 (spec_l1In.calls a0_0 0 20 false _ A3.out) ?_; rintro e w' ⟨rfl, ⟨nd, rfl⟩⟩; refine ⟨_, rfl, ?_⟩))
  go_ret
  exact ⟨e2_, bw_ HB⟩
def impl_isId.f (a0 : Int) : Option (Bool) := (impl_inRange.f a0 0 20).bind fun t601 => (some t601)
set_option maxHeartbeats 8000000 in
set_option maxRecDepth 100000 in
theorem impl_isId.calls (a0 : Int) (r : Bool) (w : World) (h : impl_isId.f a0 = some r) :
  Calls Tryz.prog 59 #[.int .i64 a0] w fun e w' => e = .returned (.bool r) ∧ Drawn0 w w' := by
 have H : ((impl_inRange.f a0 0 20).bind fun t601 => (some t601)) = some r := h
 clear h
 replace H := bi_ H; obtain ⟨t601, A2, H⟩ := H
 obtain rfl := Option.some.inj H
 go_enter Tryz.func59, Tryz.ntmps59
 go_wp2_with (first | ((with_reducible refine gq_ 63 4 ?_); refine gc_ 4 Tryz.func63 (impl_inRange.calls a0 0 20 t601 _ A2.out) ?_; rintro e w' ⟨rfl, ⟨nd, rfl⟩⟩; refine ⟨_, rfl, ?_⟩))
 go_ret
 exact ⟨e1_, dw_⟩
end Go.Proofs.YtnlndmoecljicaaGreat.Q
end
section
namespace Go.Proofs.YtnlndmoecljicaaGreat.Q
open Go.RowKit Go.Proofs.YtnlndmoecljicaaGreatW.PrintWords Go.Proofs.YtnlndmoecljicaaGreatW.PrintLast Go.Proofs.YtnlndmoecljicaaGreatW.PrintMore
attribute [local go_sem] max2_int min2_int max_two min_two max_three min_three max_four min_four   -- for this text's walks alone
set_option linter.unusedVariables false
set_option linter.unusedSimpArgs false
attribute [local go_sem high] eqA37
def impl_isKnown.f (k : Nat) (l0 : List (S37)) (a1_0 : Int) (a1_1 : ByteArray) : Option (Bool) := (impl_HeadOf.f k ([] : List ByteArray)).bind fun bt602 => (if (a1_0 == bt602.1 && (a1_1.toList == bt602.2.toList)) = true then (some true) else ((impl_IsSigned.f k l0 a1_0 a1_1).bind fun t604 => (some t604)))
def impl_isKnown.T1 : Bool × List (List Nat × List Nat) := (true, [([], []), ([], []), ([0, 1], [0, 1]), ([2, 1], [2]), ([3], [3]), ([3], [3]), ([4, 5, 3, 3], [3, 4, 5]), ([3, 6], [3, 6]), ([7, 6, 0, 1, 2, 3, 4, 5, 6, 7], [7])])
def impl_isKnown.B1 : List Nat := [0, 0, 3, 7, 15, 15, 63, 127, 255]
theorem impl_isKnown.tab1 : rtab .any (opsOf Tryz.f61 1) = impl_isKnown.T1 := by kernel_rfl
theorem impl_isKnown.bits1 : waitsOk impl_isKnown.T1.2 impl_isKnown.B1 = true := by kernel_rfl
set_option maxHeartbeats 8000000 in
set_option maxRecDepth 100000 in
theorem impl_isKnown.calls (k : Nat) (A0 : Option Addr) (c0 : Nat) (l0 : List (S37)) (a1_0 : Int) (a1_1 : ByteArray) (r : Bool) (w : World) (hr0 : Kd.C k37 w A0 l0.length l0) (hc0 : l0.length ≤ c0) (h : impl_isKnown.f k l0 a1_0 a1_1 = some r) :
  Calls Tryz.prog 61 #[.slice A0 l0.length c0, .agg #[.int .i64 a1_0, .string a1_1]] w fun e w' => e = .returned (.bool r) ∧ Below w.heap.size w w' := by
 have hu37 := Tryz.underlying37
 have HR0 := Aside0.mk hr0
 have HC0 := Aside0.mk hc0
 clear hr0 hc0
 have HB := Aside0.mk (Below.refl w.heap.size w)
 have H : ((impl_HeadOf.f k ([] : List ByteArray)).bind fun bt602 => (if (a1_0 == bt602.1 && (a1_1.toList == bt602.2.toList)) = true then (some true) else ((impl_IsSigned.f k l0 a1_0 a1_1).bind fun t604 => (some t604)))) = some r := h
 clear h
 replace H := bi_ H; obtain ⟨⟨t602, t603⟩, A3, H⟩ := H
 dsimp only at H
 replace H := it_ H; obtain ⟨c4, H⟩ | ⟨c4, H⟩ := H
 ·have c4b0 : (a1_0 == t602 && (a1_1.toList == t603.toList)) = true := c4
  (try (have c4b1 : decide (a1_0 = t602 && (a1_1.toList == t603.toList)) = true := by simpa using c4))
  (try (have c4b2 : (a1_0 == t602 && (a1_1.toList == t603.toList)) = true := by simpa using c4))
  clear c4
  obtain rfl := Option.some.inj H
  go_enter Tryz.func61, Tryz.ntmps61
  try go_wp2_with (first | ((with_reducible refine gd_ 3 ?_); refine bx_ 3 37 #[.int .i64 a1_0, .string a1_1] ?_; intro gb601 hg w5 hbox hb; have BK601 := Aside0.mk hbox; have GW601 := gg_ hg HB; have GE601 := GW601; replace HB := ss_ HB hb; clear hb hbox hg))
  replace BK601 := Aside0.mk (blk_drew BK601.out)
  replace HB := Aside0.mk (below_drew1 HB.out)
  refine start_ (n := 9) (S := fun w' => w'.cell? ⟨gb601, 0, none⟩ = some (.int .i64 a1_0) ∧ w'.cell? ⟨gb601, 1, none⟩ = some (.string a1_1)) (ds := []) (lz_ 9 0) (by kernel_rfl) rfl rfl ⟨bc0_ BK601.out, bc1_ BK601.out⟩ (fun hHeld => ?_); refine with_tabW impl_isKnown.tab1 impl_isKnown.bits1 (fun HT_ HW_ => ?_)
  generalize w5.drew = w6 at BK601 HB hHeld ⊢
  refine tt_ 0 5 1 ?_
  refine one_ (i := 1) (N := some 6) (lz_ 9 3) rfl rfl (one_of HT_.out (by kernel_rfl)) (by decide) (fun K hK => ?_)
  refine ge_ Tryz.func65 #[.slice none 0 0] ?_
  refine (impl_HeadOf.calls k _ _ ([] : List ByteArray) t602 t603 _ ?side1 ?side2 A3.out).mono ?_
  (case side1 => exact Kd.C_nil _ _)
  (case side2 => exact Nat.le_refl _)
  rintro e w7 ⟨rfl, hb⟩
  refine ⟨_, rfl, ?_⟩
  replace BK601 := kl_ BK601 hb
  replace HB := ss_ HB hb
  clear hb
  refine hK.out _ _ ⟨bc0_ BK601.out, bc1_ BK601.out⟩ (fun hHeld => ?_)
  clear hK K
  refine no_ 6 ?_
  refine pt_ 2 7 7 ?_
  refine pt_ 3 8 15 ?_
  refine ut_ 4 9 31 ?_
  refine ut_ 5 10 63 ?_
  refine ut_ 6 11 127 ?_
  refine pt_ 7 12 255 ?_
  refine pt_ 8 4 511 ?_
  refine done_ (done_of HT_.out (by kernel_rfl)) ?_
  try go_wp2
  go_ret
  exact ⟨e2_, bw_ HB⟩
 ·have c4b0 : (a1_0 == t602 && (a1_1.toList == t603.toList)) = false := by simpa using c4
  (try (have c4b1 : decide (a1_0 = t602 && (a1_1.toList == t603.toList)) = false := by simpa using c4))
  (try (have c4b2 : (a1_0 == t602 && (a1_1.toList == t603.toList)) = false := by simpa using c4))
  (try (have c4b3 : ¬ (a1_0 = t602 && (a1_1.toList == t603.toList)) := by simpa using c4))
  clear c4
  replace H := bi_ H; obtain ⟨t604, A8, H⟩ := H
  obtain rfl := Option.some.inj H
  go_enter Tryz.func61, Tryz.ntmps61
  try go_wp2_with (first | ((with_reducible refine gd_ 3 ?_); refine bx_ 3 37 #[.int .i64 a1_0, .string a1_1] ?_; intro gb601 hg w9 hbox hb; have BK601 := Aside0.mk hbox; have GW601 := gg_ hg HB; have GE601 := GW601; replace HB := ss_ HB hb; clear hb hbox hg))
  replace BK601 := Aside0.mk (blk_drew BK601.out)
  replace HB := Aside0.mk (below_drew1 HB.out)
  refine start_ (n := 9) (S := fun w' => w'.cell? ⟨gb601, 0, none⟩ = some (.int .i64 a1_0) ∧ w'.cell? ⟨gb601, 1, none⟩ = some (.string a1_1)) (ds := []) (lz_ 9 0) (by kernel_rfl) rfl rfl ⟨bc0_ BK601.out, bc1_ BK601.out⟩ (fun hHeld => ?_); refine with_tabW impl_isKnown.tab1 impl_isKnown.bits1 (fun HT_ HW_ => ?_)
  generalize w9.drew = w10 at BK601 HB hHeld ⊢
  refine tt_ 0 5 1 ?_
  refine one_ (i := 1) (N := some 6) (lz_ 9 3) rfl rfl (one_of HT_.out (by kernel_rfl)) (by decide) (fun K hK => ?_)
  refine ge_ Tryz.func65 #[.slice none 0 0] ?_
  refine (impl_HeadOf.calls k _ _ ([] : List ByteArray) t602 t603 _ ?side1 ?side2 A3.out).mono ?_
  (case side1 => exact Kd.C_nil _ _)
  (case side2 => exact Nat.le_refl _)
  rintro e w11 ⟨rfl, hb⟩
  refine ⟨_, rfl, ?_⟩
  replace BK601 := kl_ BK601 hb
  replace HB := ss_ HB hb
  clear hb
  refine hK.out _ _ ⟨bc0_ BK601.out, bc1_ BK601.out⟩ (fun hHeld => ?_)
  clear hK K
  refine no_ 6 ?_
  refine pt_ 2 7 7 ?_
  refine pt_ 3 8 15 ?_
  refine pt_ 4 9 31 ?_
  refine tt_ 5 10 63 ?_
  refine one_ (i := 6) (N := some 11) (lz_ 9 127) rfl rfl (one_of HT_.out (by kernel_rfl)) (by decide) (fun K hK => ?_)
  refine gf_ Tryz.func96 (impl_IsSigned.calls k _ _ l0 a1_0 a1_1 t604 _ (cb_ HR0 HB) HC0.out A8.out) ?_
  rintro e w12 ⟨rfl, hb⟩
  refine ⟨_, rfl, ?_⟩
  replace BK601 := kl_ BK601 hb
  replace HB := ss_ HB hb
  clear hb
  refine hK.out _ _ ⟨bc0_ BK601.out, bc1_ BK601.out⟩ (fun hHeld => ?_)
  clear hK K
  refine no_ 11 ?_
  refine pt_ 7 12 255 ?_
  refine pt_ 8 4 511 ?_
  refine done_ (done_of HT_.out (by kernel_rfl)) ?_
  try go_wp2
  go_ret
  exact ⟨e2_, bw_ HB⟩
end Go.Proofs.YtnlndmoecljicaaGreat.Q
end
section
namespace Go.Proofs.YtnlndmoecljicaaGreat.Q
open Go.RowKit Go.Proofs.YtnlndmoecljicaaGreatW.PrintWords Go.Proofs.YtnlndmoecljicaaGreatW.PrintLast Go.Proofs.YtnlndmoecljicaaGreatW.PrintMore
attribute [local go_sem] max2_int min2_int max_two min_two max_three min_three max_four min_four   -- for this text's walks alone
set_option linter.unusedVariables false
set_option linter.unusedSimpArgs false
def impl_MirrorOk.f (k : Nat) (a0_0 : Int) (l0_1 : List ByteArray) (a0_2 : Int) (a0_3 : ByteArray) (l0_4 : List Int) (a0_5 : Int) (a0_6 : Int) (a0_7 : ByteArray) (l1 : List (S37)) : Option (Bool) := (impl_isId.f a0_0).bind fun t602 => (if t602 = true then ((impl_HeadOk.f a0_6 a0_7).bind fun t603 => (if t603 = true then ((impl_isKnown.f k l1 a0_6 a0_7).bind fun t604 => (if t604 = true then ((impl_isKnown.f k l1 a0_2 a0_3).bind fun t605 => (if t605 = true then ((impl_StoreOk.f k l0_1 a0_2 a0_3 l0_4 a0_5).bind fun t606 => (some t606)) else (some false))) else (some false))) else (some false))) else (some false))
set_option maxHeartbeats 8000000 in
set_option maxRecDepth 100000 in
theorem impl_MirrorOk.calls (k : Nat) (a0_0 : Int) (A0_1 : Option Addr) (c0_1 : Nat) (l0_1 : List ByteArray) (a0_2 : Int) (a0_3 : ByteArray) (A0_4 : Option Addr) (c0_4 : Nat) (l0_4 : List Int) (a0_5 : Int) (a0_6 : Int) (a0_7 : ByteArray) (A1 : Option Addr) (c1 : Nat) (l1 : List (S37)) (r : Bool) (w : World) (hr0_1 : Kd.C Kd.string w A0_1 l0_1.length l0_1) (hc0_1 : l0_1.length ≤ c0_1) (hr0_4 : Kd.C (Kd.int .u8) w A0_4 l0_4.length l0_4) (hc0_4 : l0_4.length ≤ c0_4) (hr1 : Kd.C k37 w A1 l1.length l1) (hc1 : l1.length ≤ c1) (h : impl_MirrorOk.f k a0_0 l0_1 a0_2 a0_3 l0_4 a0_5 a0_6 a0_7 l1 = some r) :
  Calls Tryz.prog 27 #[.agg #[.int .i64 a0_0, .slice A0_1 l0_1.length c0_1, .int .i64 a0_2, .string a0_3, .slice A0_4 l0_4.length c0_4, .int .i64 a0_5, .int .i64 a0_6, .string a0_7], .slice A1 l1.length c1] w fun e w' => e = .returned (.bool r) ∧ Below w.heap.size w w' := by
 have hu43 := Tryz.underlying43
 have hu37 := Tryz.underlying37
 have hu41 := Tryz.underlying41
 have HR0_1 := Aside0.mk hr0_1
 have HC0_1 := Aside0.mk hc0_1
 clear hr0_1 hc0_1
 have HR0_4 := Aside0.mk hr0_4
 have HC0_4 := Aside0.mk hc0_4
 clear hr0_4 hc0_4
 have HR1 := Aside0.mk hr1
 have HC1 := Aside0.mk hc1
 clear hr1 hc1
 have HB := Aside0.mk (Below.refl w.heap.size w)
 have H : ((impl_isId.f a0_0).bind fun t602 => (if t602 = true then ((impl_HeadOk.f a0_6 a0_7).bind fun t603 => (if t603 = true then ((impl_isKnown.f k l1 a0_6 a0_7).bind fun t604 => (if t604 = true then ((impl_isKnown.f k l1 a0_2 a0_3).bind fun t605 => (if t605 = true then ((impl_StoreOk.f k l0_1 a0_2 a0_3 l0_4 a0_5).bind fun t606 => (some t606)) else (some false))) else (some false))) else (some false))) else (some false))) = some r := h
 clear h
 replace H := bi_ H; obtain ⟨t602, A3, H⟩ := H
 replace H := itb_ H; obtain ⟨rfl, H⟩ | ⟨rfl, H⟩ := H
 ·replace H := bi_ H; obtain ⟨t603, A5, H⟩ := H
  replace H := itb_ H; obtain ⟨rfl, H⟩ | ⟨rfl, H⟩ := H
  ·replace H := bi_ H; obtain ⟨t604, A7, H⟩ := H
   replace H := itb_ H; obtain ⟨rfl, H⟩ | ⟨rfl, H⟩ := H
   ·replace H := bi_ H; obtain ⟨t605, A9, H⟩ := H
    replace H := itb_ H; obtain ⟨rfl, H⟩ | ⟨rfl, H⟩ := H
    ·replace H := bi_ H; obtain ⟨t606, A11, H⟩ := H
     obtain rfl := Option.some.inj H
     go_enter Tryz.func27, Tryz.ntmps27
     go_wp2_with (first | ((with_reducible refine gd_ 2 ?_); refine bx_ 2 43 #[.int .i64 a0_0, .slice A0_1 l0_1.length c0_1, .int .i64 a0_2, .string a0_3, .slice A0_4 l0_4.length c0_4, .int .i64 a0_5, .int .i64 a0_6, .string a0_7] ?_; intro gb601 hg w12 hbox hb; have BK601 := Aside0.mk hbox; have GW601 := gg_ hg HB; have GE601 := GW601; replace HB := ss_ HB hb; clear hb hbox hg; have hcz13 := cz8_ BK601) | ((with_reducible refine gq_ 59 7 ?_); refine gc_ 7 Tryz.func59 (impl_isId.calls a0_0 true _ A3.out) ?_; rintro e w' ⟨rfl, ⟨nd, rfl⟩⟩; refine ⟨_, rfl, ?_⟩) | (go_at_call 60; (with_reducible refine (impl_HeadOk.calls a0_6 a0_7 true _ A5.out).mono ?_); rintro e w14 ⟨rfl, hb⟩; replace BK601 := kl_ BK601 hb; replace HB := ss_ HB hb; clear hb; have hcz15 := cz8_ BK601) | (go_at_call 61; (with_reducible refine (impl_isKnown.calls k _ _ l1 a0_6 a0_7 true _ ?side1 ?side2 A7.out).mono ?_); (case side1 => exact cb_ HR1 HB); (case side2 => exact HC1.out); rintro e w16 ⟨rfl, hb⟩; replace BK601 := kl_ BK601 hb; replace HB := ss_ HB hb; clear hb; have hcz17 := cz8_ BK601) | (go_at_call 61; (with_reducible refine (impl_isKnown.calls k _ _ l1 a0_2 a0_3 true _ ?side1 ?side2 A9.out).mono ?_); (case side1 => exact cb_ HR1 HB); (case side2 => exact HC1.out); rintro e w18 ⟨rfl, hb⟩; replace BK601 := kl_ BK601 hb; replace HB := ss_ HB hb; clear hb; have hcz19 := cz8_ BK601) | (go_at_call 29; (with_reducible refine (impl_StoreOk.calls k _ _ l0_1 a0_2 a0_3 _ _ l0_4 a0_5 t606 _ ?side1 ?side2 ?side3 ?side4 A11.out).mono ?_); (case side1 => exact cb_ HR0_1 HB); (case side2 => exact HC0_1.out); (case side3 => exact cb_ HR0_4 HB); (case side4 => exact HC0_4.out); rintro e w20 ⟨rfl, hb⟩; replace BK601 := kl_ BK601 hb; replace HB := ss_ HB hb; clear hb))
     go_ret
     exact ⟨e2_, bw_ HB⟩
    ·obtain rfl := Option.some.inj H
     go_enter Tryz.func27, Tryz.ntmps27
     go_wp2_with (first | ((with_reducible refine gd_ 2 ?_); refine bx_ 2 43 #[.int .i64 a0_0, .slice A0_1 l0_1.length c0_1, .int .i64 a0_2, .string a0_3, .slice A0_4 l0_4.length c0_4, .int .i64 a0_5, .int .i64 a0_6, .string a0_7] ?_; intro gb601 hg w21 hbox hb; have BK601 := Aside0.mk hbox; have GW601 := gg_ hg HB; have GE601 := GW601; replace HB := ss_ HB hb; clear hb hbox hg; have hcz22 := cz8_ BK601) | ((with_reducible refine gq_ 59 7 ?_); refine gc_ 7 Tryz.func59 (impl_isId.calls a0_0 true _ A3.out) ?_; rintro e w' ⟨rfl, ⟨nd, rfl⟩⟩; refine ⟨_, rfl, ?_⟩) | (go_at_call 60; (with_reducible refine (impl_HeadOk.calls a0_6 a0_7 true _ A5.out).mono ?_); rintro e w23 ⟨rfl, hb⟩; replace BK601 := kl_ BK601 hb; replace HB := ss_ HB hb; clear hb; have hcz24 := cz8_ BK601) | (go_at_call 61; (with_reducible refine (impl_isKnown.calls k _ _ l1 a0_6 a0_7 true _ ?side1 ?side2 A7.out).mono ?_); (case side1 => exact cb_ HR1 HB); (case side2 => exact HC1.out); rintro e w25 ⟨rfl, hb⟩; replace BK601 := kl_ BK601 hb; replace HB := ss_ HB hb; clear hb; have hcz26 := cz8_ BK601) | (go_at_call 61; (with_reducible refine (impl_isKnown.calls k _ _ l1 a0_2 a0_3 false _ ?side1 ?side2 A9.out).mono ?_); (case side1 => exact cb_ HR1 HB); (case side2 => exact HC1.out); rintro e w27 ⟨rfl, hb⟩; replace BK601 := kl_ BK601 hb; replace HB := ss_ HB hb; clear hb))
     go_ret
     exact ⟨e2_, bw_ HB⟩
   ·obtain rfl := Option.some.inj H
    go_enter Tryz.func27, Tryz.ntmps27
    go_wp2_with (first | ((with_reducible refine gd_ 2 ?_); refine bx_ 2 43 #[.int .i64 a0_0, .slice A0_1 l0_1.length c0_1, .int .i64 a0_2, .string a0_3, .slice A0_4 l0_4.length c0_4, .int .i64 a0_5, .int .i64 a0_6, .string a0_7] ?_; intro gb601 hg w28 hbox hb; have BK601 := Aside0.mk hbox; have GW601 := gg_ hg HB; have GE601 := GW601; replace HB := ss_ HB hb; clear hb hbox hg; have hcz29 := cz8_ BK601) | ((with_reducible refine gq_ 59 7 ?_); refine gc_ 7 Tryz.func59 (impl_isId.calls a0_0 true _ A3.out) ?_; rintro e w' ⟨rfl, ⟨nd, rfl⟩⟩; refine ⟨_, rfl, ?_⟩) | (go_at_call 60; (with_reducible refine (impl_HeadOk.calls a0_6 a0_7 true _ A5.out).mono ?_); rintro e w30 ⟨rfl, hb⟩; replace BK601 := kl_ BK601 hb; replace HB := ss_ HB hb; clear hb; have hcz31 := cz8_ BK601) | (go_at_call 61; (with_reducible refine (impl_isKnown.calls k _ _ l1 a0_6 a0_7 false _ ?side1 ?side2 A7.out).mono ?_); (case side1 => exact cb_ HR1 HB); (case side2 => exact HC1.out); rintro e w32 ⟨rfl, hb⟩; replace BK601 := kl_ BK601 hb; replace HB := ss_ HB hb; clear hb))
    go_ret
    exact ⟨e2_, bw_ HB⟩
  ·obtain rfl := Option.some.inj H
   go_enter Tryz.func27, Tryz.ntmps27
   go_wp2_with (first | ((with_reducible refine gd_ 2 ?_); refine bx_ 2 43 #[.int .i64 a0_0, .slice A0_1 l0_1.length c0_1, .int .i64 a0_2, .string a0_3, .slice A0_4 l0_4.length c0_4, .int .i64 a0_5, .int .i64 a0_6, .string a0_7] ?_; intro gb601 hg w33 hbox hb; have BK601 := Aside0.mk hbox; have GW601 := gg_ hg HB; have GE601 := GW601; replace HB := ss_ HB hb; clear hb hbox hg; have hcz34 := cz8_ BK601) | ((with_reducible refine gq_ 59 7 ?_); refine gc_ 7 Tryz.func59 (impl_isId.calls a0_0 true _ A3.out) ?_; rintro e w' ⟨rfl, ⟨nd, rfl⟩⟩; refine ⟨_, rfl, ?_⟩) | (go_at_call 60; (with_reducible refine (impl_HeadOk.calls a0_6 a0_7 false _ A5.out).mono ?_); rintro e w35 ⟨rfl, hb⟩; replace BK601 := kl_ BK601 hb; replace HB := ss_ HB hb; clear hb))
   go_ret
   exact ⟨e2_, bw_ HB⟩
 ·obtain rfl := Option.some.inj H
  go_enter Tryz.func27, Tryz.ntmps27
  go_wp2_with (first | ((with_reducible refine gd_ 2 ?_); refine bx_ 2 43 #[.int .i64 a0_0, .slice A0_1 l0_1.length c0_1, .int .i64 a0_2, .string a0_3, .slice A0_4 l0_4.length c0_4, .int .i64 a0_5, .int .i64 a0_6, .string a0_7] ?_; intro gb601 hg w36 hbox hb; have BK601 := Aside0.mk hbox; have GW601 := gg_ hg HB; have GE601 := GW601; replace HB := ss_ HB hb; clear hb hbox hg; have hcz37 := cz8_ BK601) | ((with_reducible refine gq_ 59 7 ?_); refine gc_ 7 Tryz.func59 (impl_isId.calls a0_0 false _ A3.out) ?_; rintro e w' ⟨rfl, ⟨nd, rfl⟩⟩; refine ⟨_, rfl, ?_⟩))
  go_ret
  exact ⟨e2_, bw_ HB⟩
end Go.Proofs.YtnlndmoecljicaaGreat.Q
end
section
namespace Go.Proofs.YtnlndmoecljicaaGreat.Q
open Go.RowKit Go.Proofs.YtnlndmoecljicaaGreat.B Go.Proofs.YtnlndmoecljicaaGreatW.PrintWords
set_option linter.unusedVariables false
def isKnown (t : List IHead) (a : Int) (s : ByteArray) : Bool := (a == (headOf []).1 && (s.toList == (headOf []).2.toList)) || hasHead t a s
theorem spec_Known_ev (t : List IHead) (a : Int) (s : ByteArray) (ht : t.length ≤ 9223372036854775807) : Ev (fun k => spec_l14Known.f k t a s) (isKnown t a s) := by
 unfold spec_l14Known.f isKnown
 refine Ev.bind (spec_HeadOf_ev [] (by simp)) ?_
 by_cases h : (a == (headOf []).1 && (s.toList == (headOf []).2.toList)) = true
 ·exact Ev.pos h (Ev.one (Ev.now _) (by rw [h]; rfl))
 ·exact Ev.neg h (Ev.bind (spec_IsSigned_ev t a s ht) (Ev.one (Ev.now _) (by rw [Bool.eq_false_iff.mpr h]; rfl)))
theorem impl_known_ev (t : List IHead) (a : Int) (s : ByteArray) (ht : t.length ≤ 9223372036854775807) : Ev (fun k => impl_isKnown.f k t a s) (isKnown t a s) := by
 unfold impl_isKnown.f isKnown
 refine Ev.bind (impl_HeadOf_ev [] (by simp)) ?_
 by_cases h : (a == (headOf []).1 && (s.toList == (headOf []).2.toList)) = true
 ·exact Ev.pos h (Ev.one (Ev.now _) (by rw [h]; rfl))
 ·exact Ev.neg h (Ev.bind (impl_IsSigned_ev t a s ht) (Ev.one (Ev.now _) (by rw [Bool.eq_false_iff.mpr h]; rfl)))
theorem isId_eq (i : Int) : impl_isId.f i = some (decide (0 ≤ i ∧ i ≤ 20)) := by
 unfold impl_isId.f
 rw [impl_in_eq]
 rfl
theorem mirrorOk_told (i : Int) (l : List ByteArray) (n : Int) (s : ByteArray) (b : List Int) (u c : Int) (z : ByteArray) (t : List IHead) (hb : InB b) (hl : b.length ≤ 1048576) (hs : ∀ x ∈ l, x.size ≤ bigB) (ht : t.length ≤ 9223372036854775807) :
  ∃ r, Ev (fun k => spec_MirrorOk.f k i l n s b u c z t) r ∧ Ev (fun k => impl_MirrorOk.f k i l n s b u c z t) r ∧ (r = true → (0 ≤ i ∧ i ≤ 20) ∧ headOk c z = true ∧ isKnown t c z = true ∧ isKnown t n s = true ∧ Ev (fun k => impl_StoreOk.f k l n s b u) true) ∧ ((0 ≤ i ∧ i ≤ 20) → headOk c z = true → isKnown t c z = true → isKnown t n s = true → Ev (fun k => impl_StoreOk.f k l n s b u) true → r = true) := by
 obtain ⟨q, q1, q2⟩ := storeOk_both l n s b u hb hl hs
 have k1 := spec_Known_ev t c z ht
 have k2 := impl_known_ev t c z ht
 have k3 := spec_Known_ev t n s ht
 have k4 := impl_known_ev t n s ht
 refine ⟨decide (0 ≤ i ∧ i ≤ 20) && (headOk c z && (isKnown t c z && (isKnown t n s && q))), ?_, ?_, fun hr => ?_, fun g1 g2 g3 g4 g5 => ?_⟩
 ·unfold spec_MirrorOk.f
  refine Ev.bind (Ev.const (spec_in_eq _ _ _)) ?_
  by_cases h : decide (0 ≤ i ∧ i ≤ 20) = true
  ·rw [h]
   refine Ev.pos rfl (Ev.bind q1 ?_)
   cases q with
   | false => exact Ev.neg (by simp) (Ev.one (Ev.now _) (by simp))
   | true =>
    refine Ev.pos rfl (Ev.bind (Ev.const (spec_HeadOk_eq c z)) ?_)
    by_cases h2 : headOk c z = true
    ·rw [h2]
     refine Ev.pos rfl (Ev.bind k1 ?_)
     by_cases h3 : isKnown t c z = true
     ·rw [h3]
      exact Ev.pos rfl (Ev.bind k3 (Ev.one (Ev.now _) (by simp)))
     ·rw [Bool.eq_false_iff.mpr h3]
      exact Ev.neg (by simp) (Ev.one (Ev.now _) (by simp))
    ·rw [Bool.eq_false_iff.mpr h2]
     exact Ev.neg (by simp) (Ev.one (Ev.now _) (by simp))
  ·rw [Bool.eq_false_iff.mpr h]
   exact Ev.neg (by simp) (Ev.one (Ev.now _) (by simp))
 ·unfold impl_MirrorOk.f
  refine Ev.bind (Ev.const (isId_eq _)) ?_
  by_cases h : decide (0 ≤ i ∧ i ≤ 20) = true
  ·rw [h]
   refine Ev.pos rfl (Ev.bind (Ev.const (impl_HeadOk_eq c z)) ?_)
   by_cases h2 : headOk c z = true
   ·rw [h2]
    refine Ev.pos rfl (Ev.bind k2 ?_)
    by_cases h3 : isKnown t c z = true
    ·rw [h3]
     refine Ev.pos rfl (Ev.bind k4 ?_)
     by_cases h4 : isKnown t n s = true
     ·rw [h4]
      exact Ev.pos rfl (Ev.bind q2 (Ev.one (Ev.now _) (by simp)))
     ·rw [Bool.eq_false_iff.mpr h4]
      exact Ev.neg (by simp) (Ev.one (Ev.now _) (by simp))
    ·rw [Bool.eq_false_iff.mpr h3]
     exact Ev.neg (by simp) (Ev.one (Ev.now _) (by simp))
   ·rw [Bool.eq_false_iff.mpr h2]
    exact Ev.neg (by simp) (Ev.one (Ev.now _) (by simp))
  ·rw [Bool.eq_false_iff.mpr h]
   exact Ev.neg (by simp) (Ev.one (Ev.now _) (by simp))
 ·simp only [Bool.and_eq_true, decide_eq_true_eq] at hr
  obtain ⟨e1, e2, e3, e4, e5⟩ := hr
  rw [e5] at q2
  exact ⟨e1, e2, e3, e4, q2⟩
 ·rw [ev_uniq q2 g5, decide_eq_true g1, g2, g3, g4]
  rfl
theorem mirrorOk_both (i : Int) (l : List ByteArray) (n : Int) (s : ByteArray) (b : List Int) (u c : Int) (z : ByteArray) (t : List IHead) (hb : InB b) (hl : b.length ≤ 1048576) (hs : ∀ x ∈ l, x.size ≤ bigB) (ht : t.length ≤ 9223372036854775807) :
  ∃ r, Ev (fun k => spec_MirrorOk.f k i l n s b u c z t) r ∧ Ev (fun k => impl_MirrorOk.f k i l n s b u c z t) r := by
 obtain ⟨r, h1, h2, _⟩ := mirrorOk_told i l n s b u c z t hb hl hs ht
 exact ⟨r, h1, h2⟩
end Go.Proofs.YtnlndmoecljicaaGreat.Q
end
section
namespace Go.Proofs.YtnlndmoecljicaaGreat.Q
open Go.RowKit Go.Proofs.YtnlndmoecljicaaGreatW.PrintWords Go.Proofs.YtnlndmoecljicaaGreatW.PrintLast Go.Proofs.YtnlndmoecljicaaGreatW.PrintMore
set_option linter.unusedVariables false
set_option linter.unusedSimpArgs false
def slices_Clone_string_string.f (l0 : List ByteArray) : Option (List ByteArray) := if l0.length ≤ 8796093022208 then some l0 else none
theorem slices_Clone_string_string.info : (Tryz.prog.info? 9).map (fun i => (i.zero, i.size, i.bytes)) = some (some (.string ⟨#[]⟩), 1, 16) := by kernel_rfl
set_option maxHeartbeats 1000000 in
set_option maxRecDepth 100000 in
theorem slices_Clone_string_string.calls (A0 : Option Addr) (c0 : Nat) (l0 : List ByteArray) (r : List ByteArray) (w : World) (hr0 : Kd.C Kd.string w A0 l0.length l0) (hc0 : l0.length ≤ c0) (h : slices_Clone_string_string.f l0 = some r) :
  Calls Tryz.prog 144 #[.slice A0 l0.length c0] w fun e w' => ∃ v0_ : Value, e = .returned (v0_) ∧ Kd.R Kd.string 9 w' w.heap.size (fun _ => True) v0_ r ∧ Below w.heap.size w w' := by
 unfold slices_Clone_string_string.f at h
 by_cases hl : l0.length ≤ 8796093022208
 ·rw [if_pos hl] at h
  obtain rfl := Option.some.inj h
  have LM := Aside0.mk hl
  have HR0 := Aside0.mk hr0
  have HC0 := Aside0.mk hc0
  have hn := fun W : World => Lib.run_eql_slice_nil (P := Tryz.prog) W 22 9 A0 l0.length c0 0 0 Tryz.underlying22
  clear hl h hc0
  cases A0 with
  | none =>
   have h0 : l0 = [] := by
    rcases Nat.eq_zero_or_pos l0.length with hz | hz
    ·exact List.eq_nil_of_length_eq_zero hz
    ·obtain ⟨ad, he, _⟩ := hr0.2.2 hz
     cases he
   subst h0
   clear hr0 hn
   have hn2 := fun W : World => Lib.run_eql_slice_nil (P := Tryz.prog) W 22 9 none 0 c0 0 0 Tryz.underlying22
   go_enter Tryz.func144, Tryz.ntmps144
   go_wp2
   go_ret
   exact ⟨_, rfl, Kd.R_nil _ _ _ _ _, Below.refl _ _⟩
  | some ad =>
   clear hr0
   go_enter Tryz.func144, Tryz.ntmps144
   go_wp2_with (first | ((with_reducible refine gate_dst (N := 5) rfl ?_); refine Kd.R_lit Kd.string _ 9 ?hg (N := 5) ?hd (w0 := w) (xs := ([] : List ByteArray)) (inner := []) (ok := fun _ => True) (okp := fun _ => True) ?hr ?hp (fun _ hk => hk) trivial (Below.refl _ _) (Nat.le_refl _) (by simp) ?_; (case hd => rfl); (case hg => rfl); (case hr => first | (go_simp; done) | (go_simp; rfl)); (case hp => exact (Reps.none _ _)); intro v1 w4 ho5 hb hg_ hnew_; clear hg_ hnew_; have HO := Aside0.mk ho5; have HB := Aside0.mk hb; clear ho5 hb) | ((with_reducible refine gate_builtin (b := .append) (xs := #[.tmp 5, .tmp 6]) rfl ?_); at_builtin; refine Kd.R_append_rows Kd.string (w0 := w) w.heap.size rfl (.tmp 5) (.tmp 6) 22 9 (.string ⟨#[]⟩) 16 rfl Tryz.underlying22 slices_Clone_string_string.info rfl (by decide) (by omega) v1 [] l0 _ _ _ (fun _ => True) (fun _ => False) rfl rfl ?aO ?aR (fun _ _ h => h) (fun _ h => h.elim) ?aF ?aB ?aS ?aL ?_; (case aR => exact Kd.C_below HR0.out HB.out); (case aB => exact HB.out); (case aF => exact (fun _ _ => trivial)); (case aO => exact HO.out); (case aS => exact HB.out.size); (case aL => have := LM.out; simp only [List.length_nil]; omega); intro v2 w6 ho hb hg hat; have HO2 := Aside0.mk ho; have HB2 := Aside0.mk hb; clear ho hb hg hat))
   go_ret
   exact ⟨_, rfl, by simpa using HO2.out, HB2.out⟩
 ·rw [if_neg hl] at h
  cases h
end Go.Proofs.YtnlndmoecljicaaGreat.Q
end
section
namespace Go.Proofs.YtnlndmoecljicaaGreat.Q
open Go.RowKit Go.Proofs.YtnlndmoecljicaaGreatW.PrintWords Go.Proofs.YtnlndmoecljicaaGreatW.PrintLast Go.Proofs.YtnlndmoecljicaaGreatW.PrintMore
attribute [local go_sem] max2_int min2_int max_two min_two max_three min_three max_four min_four   -- for this text's walks alone
set_option linter.unusedVariables false
set_option linter.unusedSimpArgs false
def impl_copyLog.f (l0_0 : List ByteArray) (a0_1 : Int) (a0_2 : ByteArray) : Option (List ByteArray × Int × ByteArray) := (slices_Clone_string_string.f l0_0).bind fun t603 => (some (t603, a0_1, a0_2))
set_option maxHeartbeats 8000000 in
set_option maxRecDepth 100000 in
theorem impl_copyLog.calls (A0_0 : Option Addr) (c0_0 : Nat) (l0_0 : List ByteArray) (a0_1 : Int) (a0_2 : ByteArray) (r1 : List ByteArray) (r2 : Int) (r3 : ByteArray) (w : World) (hr0_0 : Kd.C Kd.string w A0_0 l0_0.length l0_0) (hc0_0 : l0_0.length ≤ c0_0) (h : impl_copyLog.f l0_0 a0_1 a0_2 = some (r1, r2, r3)) :
  Calls Tryz.prog 121 #[.agg #[.slice A0_0 l0_0.length c0_0, .int .i64 a0_1, .string a0_2]] w fun e w' => ∃ v0_ : Value, e = .returned (.agg #[v0_, .int .i64 r2, .string r3]) ∧ Kd.R Kd.string 9 w' w.heap.size (fun _ => True) v0_ r1 ∧ Below w.heap.size w w' := by
 have hu39 := Tryz.underlying39
 have HR0_0 := Aside0.mk hr0_0
 have HC0_0 := Aside0.mk hc0_0
 clear hr0_0 hc0_0
 have HB := Aside0.mk (Below.refl w.heap.size w)
 have H : ((slices_Clone_string_string.f l0_0).bind fun t603 => (some (t603, a0_1, a0_2))) = some (r1, r2, r3) := h
 clear h
 replace H := bi_ H; obtain ⟨t603, A2, H⟩ := H
 replace H := so3_ H; obtain ⟨rfl, rfl, rfl⟩ := H
 go_enter Tryz.func121, Tryz.ntmps121
 go_wp2_with (first | ((with_reducible refine gd_ 1 ?_); refine bx_ 1 39 #[.slice A0_0 l0_0.length c0_0, .int .i64 a0_1, .string a0_2] ?_; intro gb601 hg w3 hbox hb; have BK601 := Aside0.mk hbox; have GW601 := gg_ hg HB; have GE601 := GW601; replace HB := ss_ HB hb; clear hb hbox hg) | ((with_reducible refine gd_ 2 ?_); refine bx_ 2 39 #[.slice none 0 0, .int .i64 0, .string (⟨#[]⟩ : ByteArray)] ?_; intro gb602 hg w4 hbox hb; have BK602 := Aside0.mk hbox; have GW602 := gg_ hg HB; have GE602 := GW602; replace HB := ss_ HB hb; have NB601_602 := nla_ hg BK601; have NB602_601 := nga_ hg BK601; replace BK601 := kl_ BK601 hb; clear hb hbox hg; have hnb5 := NB601_602.out; have hnc5 := NB602_601.out; have hz6 := cz3_ BK601) | ((with_reducible refine gq_ 144 5 ?_); refine gc_ 5 Tryz.func144 (slices_Clone_string_string.calls _ _ l0_0 t603 _ (cb_ HR0_0 HB) HC0_0.out A2.out) ?_; rintro e w7 ⟨v604, rfl, ho0, hb⟩; refine ⟨_, rfl, ?_⟩; have HO605 := Aside0.mk (Kd.R_lower ho0 (sz_ HB)); replace BK601 := kl_ BK601 hb; replace BK602 := kl_ BK602 hb; replace HB := ss_ HB hb; clear hb ho0; obtain ⟨Ao8, co8, eo8⟩ := Kd.R_slice HO605.out; subst eo8; have hz9 := cz3_ BK601; have hz10 := cz3_ BK602))
 refine bodyPost_ret (results_cell_row rfl _ _ gb602 39 #[.slice Ao8 t603.length co8, .int .i64 a0_1, .string a0_2] (0, 0) _ rfl (by exact kq_ BK602) Tryz.underlying39 rfl (by kernel_rfl)) rfl ?_
 exact ⟨_, e2_, by (with_reducible repeat (first | apply Kd.R_alloc | apply Kd.R_drewN | apply Kd.R_drew)); exact Kd.R_mono (Kd.R_far (p := ⟨gb602, 2, none⟩) (Kd.R_far (p := ⟨gb602, 1, none⟩) (Kd.R_far (p := ⟨gb602, 0, none⟩) (Kd.R_far (p := ⟨gb601, 0, none⟩) (Kd.R_types (Kd.R_types HO605.out BK601.out (by decide)) BK602.out (by decide)) (fun _ hk => hk.1.2) (.slice Ao8 t603.length co8)) (fun _ hk => hk.2) (.slice Ao8 t603.length co8)) (fun _ hk => hk.2) (.int .i64 a0_1)) (fun _ hk => hk.2) (.string a0_2)) (fun _ hk => trivial), bw_ HB⟩
def spec_l11Copy.f (l0_0 : List ByteArray) (a0_1 : Int) (a0_2 : ByteArray) : Option (List ByteArray × Int × ByteArray) := (some (([] : List ByteArray) : List ByteArray)).bind fun y603 => (if y603.length + l0_0.length < 8796093022208 then (some ((y603 ++ l0_0), a0_1, a0_2)) else (none))
def spec_l11Copy.T1 : Bool × List (List Nat × List Nat) := (true, [([], []), ([], []), ([1], [1]), ([0, 2], [0, 2]), ([], []), ([4], [4]), ([3, 5], [3, 5]), ([6, 3, 0, 1, 2, 3, 4, 5, 6], [6])])
def spec_l11Copy.B1 : List Nat := [0, 0, 2, 7, 0, 16, 63, 127]
theorem spec_l11Copy.tab1 : rtab .any (opsOf Tryz.f125 1) = spec_l11Copy.T1 := by kernel_rfl
theorem spec_l11Copy.bits1 : waitsOk spec_l11Copy.T1.2 spec_l11Copy.B1 = true := by kernel_rfl
set_option maxHeartbeats 8000000 in
set_option maxRecDepth 100000 in
theorem spec_l11Copy.calls (A0_0 : Option Addr) (c0_0 : Nat) (l0_0 : List ByteArray) (a0_1 : Int) (a0_2 : ByteArray) (r1 : List ByteArray) (r2 : Int) (r3 : ByteArray) (w : World) (hr0_0 : Kd.C Kd.string w A0_0 l0_0.length l0_0) (hc0_0 : l0_0.length ≤ c0_0) (h : spec_l11Copy.f l0_0 a0_1 a0_2 = some (r1, r2, r3)) :
  Calls Tryz.prog 125 #[.agg #[.slice A0_0 l0_0.length c0_0, .int .i64 a0_1, .string a0_2]] w fun e w' => ∃ v0_ : Value, e = .returned (.agg #[v0_, .int .i64 r2, .string r3]) ∧ Kd.R Kd.string 9 w' w.heap.size (fun _ => True) v0_ r1 ∧ Below w.heap.size w w' := by
 have hu39 := Tryz.underlying39
 have hu37 := Tryz.underlying37
 have HR0_0 := Aside0.mk hr0_0
 have HC0_0 := Aside0.mk hc0_0
 clear hr0_0 hc0_0
 have HB := Aside0.mk (Below.refl w.heap.size w)
 have H : ((some (([] : List ByteArray) : List ByteArray)).bind fun y603 => (if y603.length + l0_0.length < 8796093022208 then (some ((y603 ++ l0_0), a0_1, a0_2)) else (none))) = some (r1, r2, r3) := h
 clear h
 obtain ⟨y603, Ny603, H⟩ := sb_ (([] : List ByteArray)) H
 replace H := ip_ H; obtain ⟨c2, H⟩ := H
 have LMc2 := Aside0.mk c2
 clear c2
 obtain ⟨y606, hy606⟩ : ∃ y_ : List ByteArray, y_ = (y603 ++ l0_0) := ⟨_, rfl⟩
 replace H : (some (y606, a0_1, a0_2)) = some (r1, r2, r3) := yh_ hy606 H
 have Ny606 := Aside0.mk hy606
 clear hy606
 replace H := so3_ H; obtain ⟨rfl, rfl, rfl⟩ := H
 go_enter Tryz.func125, Tryz.ntmps125
 try go_wp2_with (first | ((with_reducible refine gd_ 1 ?_); refine bx_ 1 39 #[.slice A0_0 l0_0.length c0_0, .int .i64 a0_1, .string a0_2] ?_; intro gb601 hg w3 hbox hb; have BK601 := Aside0.mk hbox; have GW601 := gg_ hg HB; have GE601 := GW601; replace HB := ss_ HB hb; clear hb hbox hg) | ((with_reducible refine gd_ 2 ?_); refine bx_ 2 39 #[.slice none 0 0, .int .i64 0, .string (⟨#[]⟩ : ByteArray)] ?_; intro gb602 hg w4 hbox hb; have BK602 := Aside0.mk hbox; have GW602 := gg_ hg HB; have GE602 := GW602; replace HB := ss_ HB hb; have NB601_602 := nla_ hg BK601; have NB602_601 := nga_ hg BK601; replace BK601 := kl_ BK601 hb; clear hb hbox hg))
 replace BK601 := Aside0.mk (blk_drew BK601.out)
 replace BK602 := Aside0.mk (blk_drew BK602.out)
 replace HB := Aside0.mk (below_drew1 HB.out)
 refine start_ (n := 8) (S := fun w' => w'.cell? ⟨gb601, 0, none⟩ = some (.slice A0_0 l0_0.length c0_0) ∧ w'.cell? ⟨gb601, 1, none⟩ = some (.int .i64 a0_1) ∧ w'.cell? ⟨gb601, 2, none⟩ = some (.string a0_2)) (ds := []) (lz_ 8 0) (by kernel_rfl) rfl rfl ⟨bc0_ BK601.out, bc1_ BK601.out, bc2_ BK601.out⟩ (fun hHeld => ?_); refine with_tabW spec_l11Copy.tab1 spec_l11Copy.bits1 (fun HT_ HW_ => ?_)
 generalize w4.drew = w5 at BK601 BK602 HB hHeld ⊢
 refine pt_ 1 4 2 ?_
 refine pt_ 4 7 18 ?_
 refine tt_ 2 5 22 ?_
 refine tt_ 5 8 54 ?_
 refine one_ (i := 0) (N := some 3) (lz_ 8 55) rfl rfl (one_of HT_.out (by kernel_rfl)) (by decide) (fun K hK => ?_)
 refine Kd.R_lit_step Kd.string _ 9 ?hg (N := 3) ?hd (xs := ([] : List ByteArray)) (inner := []) (ok := fun _ => True) (okp := fun _ => True) ?hr ?hp (fun _ hk => hk) trivial (Below.refl _ _) (Nat.le_refl _) (by simp) ?_; (case hd => rfl); (case hg => rfl); (case hr => first | (go_simp; done) | (go_simp; rfl)); (case hp => exact (Reps.none _ _))
 intro v604 w6 ho7 hb hg_ hnew_
 clear hg_ hnew_
 (first | rw [← Ny603.out] at ho7 | (simp only [Int.reduceToNat] at ho7; rw [← Ny603.out] at ho7))
 have HO605 := Aside0.mk (Kd.R_lower ho7 (sz_ HB))
 replace BK601 := kl_ BK601 hb
 replace BK602 := kl_ BK602 hb
 replace HB := ss_ HB hb
 clear hb ho7
 refine hK.out _ _ ⟨bc0_ BK601.out, bc1_ BK601.out, bc2_ BK601.out⟩ (fun hHeld => ?_)
 clear hK K
 refine no_ 3 ?_
 refine one_ (i := 3) (N := some 6) (lz_ 8 63) rfl rfl (one_of HT_.out (by kernel_rfl)) (by decide) (fun K hK => ?_)
 refine Kd.R_append_rows_step Kd.string (w0 := w) w.heap.size (by rfl) (.tmp 3) (.tmp 5) 22 9 (.string ⟨#[]⟩) 16 rfl Tryz.underlying22 info9 rfl (by decide) (by omega) v604 y603 l0_0 _ _ _ (fun _ => True) (fun _ => False) rfl rfl ?aO ?aR (fun _ _ h => h) (fun _ h => h.elim) ?aF ?aB ?aS ?aL ?_
 (case aR => exact cb_ HR0_0 HB)
 (case aB => exact (bw_ HB))
 (case aF => exact (fun _ _ => trivial))
 (case aO => exact (kr_ HO605.out))
 (case aS => exact (sz_ HB))
 (case aL => have := LMc2.out; omega)
 intro v607 w8 ho hb hg hat
 rw [← Ny606.out] at ho
 replace BK601 := kg_ BK601 HO605 hg
 replace BK602 := kg_ BK602 HO605 hg
 replace HB := Aside0.mk hb
 have HO608 := Aside0.mk ho
 clear HO605
 clear ho hb hg hat
 obtain ⟨Ao9, co9, eo9⟩ := Kd.R_slice HO608.out
 (first | subst eo9 | (injection eo9 with f1_ f2_ f3_; have f4_ := f1_.symm; have f5_ := f3_.symm; clear f1_ f2_ f3_; subst f4_; subst f5_))
 refine hK.out _ _ ⟨bc0_ BK601.out, bc1_ BK601.out, bc2_ BK601.out⟩ (fun hHeld => ?_)
 clear hK K
 refine no_ 6 ?_
 refine pt_ 6 9 127 ?_
 refine one_ (i := 7) (N := none) (lz_ 8 255) rfl rfl (one_of HT_.out (by kernel_rfl)) (by decide) (fun K hK => ?_)
 have hs10 := bc0_ BK602.out
 have hfs10 := blk_frozen BK602.out 0
 have hns10_0 := NB601_602.out
 have hms10_0 := NB602_601.out
 have hs11 := bc1_ BK602.out
 have hfs11 := blk_frozen BK602.out 1
 have hns11_0 := NB601_602.out
 have hms11_0 := NB602_601.out
 have hs12 := bc2_ BK602.out
 have hfs12 := blk_frozen BK602.out 2
 have hns12_0 := NB601_602.out
 have hms12_0 := NB602_601.out
 refine skip_ (w1 := ?_) (by rfl) rfl ?_ ?_
 rotate_left
 ·go_simp
  rfl
 refine hK.out _ _ ⟨((cell_far (p := ⟨gb602, _, none⟩) NB601_602.out _).trans (((cell_far (p := ⟨gb602, _, none⟩) NB601_602.out _).trans (((cell_far (p := ⟨gb602, _, none⟩) NB601_602.out _).trans (hHeld.1)))))), ((cell_far (p := ⟨gb602, _, none⟩) NB601_602.out _).trans (((cell_far (p := ⟨gb602, _, none⟩) NB601_602.out _).trans (((cell_far (p := ⟨gb602, _, none⟩) NB601_602.out _).trans (hHeld.2.1)))))), ((cell_far (p := ⟨gb602, _, none⟩) NB601_602.out _).trans (((cell_far (p := ⟨gb602, _, none⟩) NB601_602.out _).trans (((cell_far (p := ⟨gb602, _, none⟩) NB601_602.out _).trans (hHeld.2.2))))))⟩ (fun hHeld => ?_)
 clear hK K
 refine done_ (done_of HT_.out (by kernel_rfl)) ?_
 try go_wp2
 refine bodyPost_ret (results_cell_row rfl _ _ gb602 39 #[.slice Ao9 y606.length co9, .int .i64 a0_1, .string a0_2] (0, 0) _ rfl (by exact kq_ BK602) Tryz.underlying39 rfl (by kernel_rfl)) rfl ?_
 exact ⟨_, e2_, by (with_reducible repeat (first | apply Kd.R_alloc | apply Kd.R_drewN | apply Kd.R_drew)); exact Kd.R_mono (Kd.R_far (p := ⟨gb602, 2, none⟩) (Kd.R_far (p := ⟨gb602, 1, none⟩) (Kd.R_far (p := ⟨gb602, 0, none⟩) (Kd.R_types HO608.out BK602.out (by decide)) (fun _ hk => hk.2) (.slice Ao9 y606.length co9)) (fun _ hk => hk.2) (.int .i64 a0_1)) (fun _ hk => hk.2) (.string a0_2)) (fun _ hk => trivial), bw_ HB⟩
end Go.Proofs.YtnlndmoecljicaaGreat.Q
end
section
namespace Go.Proofs.YtnlndmoecljicaaGreat.Q
open Go.RowKit Go.Proofs.YtnlndmoecljicaaGreat.B Go.Proofs.YtnlndmoecljicaaGreatW.PrintWords
theorem impl_copyLog_eq (l : List ByteArray) (n : Int) (s : ByteArray) (hl : l.length < 8796093022208) : impl_copyLog.f l n s = some (l, n, s) := by
 unfold impl_copyLog.f slices_Clone_string_string.f
 rw [if_pos (by omega)]
 rfl
theorem spec_l11Copy_eq (l : List ByteArray) (n : Int) (s : ByteArray) (hl : l.length < 8796093022208) : spec_l11Copy.f l n s = some (l, n, s) := by
 unfold spec_l11Copy.f
 simp only [Option.bind_some, List.length_nil, List.nil_append]
 rw [if_pos (by omega)]
end Go.Proofs.YtnlndmoecljicaaGreat.Q
end
section
namespace Go.Proofs.YtnlndmoecljicaaGreat.Q
open Go.RowKit Go.Proofs.YtnlndmoecljicaaGreatW.PrintWords Go.Proofs.YtnlndmoecljicaaGreatW.PrintLast Go.Proofs.YtnlndmoecljicaaGreatW.PrintMore
attribute [local go_sem] max2_int min2_int max_two min_two max_three min_three max_four min_four   -- for this text's walks alone
set_option linter.unusedVariables false
set_option linter.unusedSimpArgs false
def impl_copyStore.f (l0_0 : List ByteArray) (a0_1 : Int) (a0_2 : ByteArray) (l0_3 : List Int) (a0_4 : Int) : Option (List ByteArray × Int × ByteArray × List Int × Int) := (impl_copyLog.f l0_0 a0_1 a0_2).bind fun bt603 => ((slices_Clone_byte_byte.f l0_3).bind fun t608 => (some (bt603.1, bt603.2.1, bt603.2.2, t608, a0_4)))
def impl_copyStore.T1 : Bool × List (List Nat × List Nat) := (true, [([], []), ([0], [0]), ([1], [1]), ([], []), ([3], [3]), ([4, 2], [4]), ([], []), ([6], [6]), ([2, 5, 7], [2, 5, 7]), ([8, 5, 0, 1, 2, 3, 4, 5, 6, 7, 8], [8])])
def impl_copyStore.B1 : List Nat := [0, 1, 3, 0, 8, 31, 0, 64, 255, 511]
theorem impl_copyStore.tab1 : rtab .any (opsOf Tryz.f90 1) = impl_copyStore.T1 := by kernel_rfl
theorem impl_copyStore.bits1 : waitsOk impl_copyStore.T1.2 impl_copyStore.B1 = true := by kernel_rfl
set_option maxHeartbeats 8000000 in
set_option maxRecDepth 100000 in
theorem impl_copyStore.calls (A0_0 : Option Addr) (c0_0 : Nat) (l0_0 : List ByteArray) (a0_1 : Int) (a0_2 : ByteArray) (A0_3 : Option Addr) (c0_3 : Nat) (l0_3 : List Int) (a0_4 : Int) (r1 : List ByteArray) (r2 : Int) (r3 : ByteArray) (r4 : List Int) (r5 : Int) (w : World) (hr0_0 : Kd.C Kd.string w A0_0 l0_0.length l0_0) (hc0_0 : l0_0.length ≤ c0_0) (hr0_3 : Kd.C (Kd.int .u8) w A0_3 l0_3.length l0_3) (hc0_3 : l0_3.length ≤ c0_3) (h : impl_copyStore.f l0_0 a0_1 a0_2 l0_3 a0_4 = some (r1, r2, r3, r4, r5)) :
  Calls Tryz.prog 90 #[.agg #[.slice A0_0 l0_0.length c0_0, .int .i64 a0_1, .string a0_2, .slice A0_3 l0_3.length c0_3, .int .i64 a0_4]] w fun e w' => ∃ v0_ v3_ : Value, e = .returned (.agg #[v0_, .int .i64 r2, .string r3, v3_, .int .i64 r5]) ∧ Kd.R Kd.string 9 w' w.heap.size (fun _ => True) v0_ r1 ∧ Kd.R (Kd.int .u8) 5 w' w.heap.size (fun _ => True) v3_ r4 ∧ Below w.heap.size w w' := by
 have hu41 := Tryz.underlying41
 have hu39 := Tryz.underlying39
 have HR0_0 := Aside0.mk hr0_0
 have HC0_0 := Aside0.mk hc0_0
 clear hr0_0 hc0_0
 have HR0_3 := Aside0.mk hr0_3
 have HC0_3 := Aside0.mk hc0_3
 clear hr0_3 hc0_3
 have HB := Aside0.mk (Below.refl w.heap.size w)
 have H : ((impl_copyLog.f l0_0 a0_1 a0_2).bind fun bt603 => ((slices_Clone_byte_byte.f l0_3).bind fun t608 => (some (bt603.1, bt603.2.1, bt603.2.2, t608, a0_4)))) = some (r1, r2, r3, r4, r5) := h
 clear h
 replace H := bi_ H; obtain ⟨⟨t603, t606, t607⟩, A2, H⟩ := H
 dsimp only at H
 replace H := bi_ H; obtain ⟨t608, A3, H⟩ := H
 replace H := so5_ H; obtain ⟨rfl, rfl, rfl, rfl, rfl⟩ := H
 go_enter Tryz.func90, Tryz.ntmps90
 try go_wp2_with (first | ((with_reducible refine gd_ 1 ?_); refine bx_ 1 41 #[.slice A0_0 l0_0.length c0_0, .int .i64 a0_1, .string a0_2, .slice A0_3 l0_3.length c0_3, .int .i64 a0_4] ?_; intro gb601 hg w4 hbox hb; have BK601 := Aside0.mk hbox; have GW601 := gg_ hg HB; have GE601 := GW601; replace HB := ss_ HB hb; clear hb hbox hg) | ((with_reducible refine gd_ 2 ?_); refine bx_ 2 41 #[.slice none 0 0, .int .i64 0, .string (⟨#[]⟩ : ByteArray), .slice none 0 0, .int .i64 0] ?_; intro gb602 hg w5 hbox hb; have BK602 := Aside0.mk hbox; have GW602 := gg_ hg HB; have GE602 := GW602; replace HB := ss_ HB hb; have NB601_602 := nla_ hg BK601; have NB602_601 := nga_ hg BK601; replace BK601 := kl_ BK601 hb; clear hb hbox hg))
 replace BK601 := Aside0.mk (blk_drew BK601.out)
 replace BK602 := Aside0.mk (blk_drew BK602.out)
 replace HB := Aside0.mk (below_drew1 HB.out)
 refine start_ (n := 10) (S := fun w' => w'.cell? ⟨gb601, 0, none⟩ = some (.slice A0_0 l0_0.length c0_0) ∧ w'.cell? ⟨gb601, 1, none⟩ = some (.int .i64 a0_1) ∧ w'.cell? ⟨gb601, 2, none⟩ = some (.string a0_2) ∧ w'.cell? ⟨gb601, 3, none⟩ = some (.slice A0_3 l0_3.length c0_3) ∧ w'.cell? ⟨gb601, 4, none⟩ = some (.int .i64 a0_4)) (ds := []) (lz_ 10 0) (by kernel_rfl) rfl rfl ⟨bc0_ BK601.out, bc1_ BK601.out, bc2_ BK601.out, bc3_ BK601.out, bc4_ BK601.out⟩ (fun hHeld => ?_); refine with_tabW impl_copyStore.tab1 impl_copyStore.bits1 (fun HT_ HW_ => ?_)
 generalize w5.drew = w6 at BK601 BK602 HB hHeld ⊢
 refine pt_ 0 3 1 ?_
 refine pt_ 3 6 9 ?_
 refine pt_ 6 9 73 ?_
 refine tt_ 1 4 75 ?_
 refine tt_ 4 7 91 ?_
 refine tt_ 7 10 219 ?_
 refine one_ (i := 2) (N := some 5) (lz_ 10 223) rfl rfl (one_of HT_.out (by kernel_rfl)) (by decide) (fun K hK => ?_)
 refine gf_ Tryz.func121 (impl_copyLog.calls _ _ l0_0 a0_1 a0_2 t603 t606 t607 _ (cb_ HR0_0 HB) HC0_0.out A2.out) ?_
 rintro e w7 ⟨v604, rfl, ho0, hb⟩
 refine ⟨_, rfl, ?_⟩
 have HO605 := Aside0.mk (Kd.R_lower ho0 (sz_ HB))
 replace BK601 := kl_ BK601 hb
 replace BK602 := kl_ BK602 hb
 replace HB := ss_ HB hb
 clear hb ho0
 refine hK.out _ _ ⟨bc0_ BK601.out, bc1_ BK601.out, bc2_ BK601.out, bc3_ BK601.out, bc4_ BK601.out⟩ (fun hHeld => ?_)
 clear hK K
 refine no_ 5 ?_
 refine one_ (i := 5) (N := some 8) (lz_ 10 255) rfl rfl (one_of HT_.out (by kernel_rfl)) (by decide) (fun K hK => ?_)
 refine gf_ Tryz.func122 (slices_Clone_byte_byte.calls _ _ l0_3 t608 _ (cb_ HR0_3 HB) HC0_3.out A3.out) ?_
 rintro e w8 ⟨v609, rfl, ho0, hb⟩
 refine ⟨_, rfl, ?_⟩
 replace HO605 := rb_ HO605 hb
 have HO610 := Aside0.mk (Kd.R_lower ho0 (sz_ HB))
 replace BK601 := kl_ BK601 hb
 replace BK602 := kl_ BK602 hb
 replace HB := ss_ HB hb
 clear hb ho0
 obtain ⟨Ao9, co9, eo9⟩ := Kd.R_slice HO610.out
 (first | subst eo9 | (injection eo9 with f1_ f2_ f3_; have f4_ := f1_.symm; have f5_ := f3_.symm; clear f1_ f2_ f3_; subst f4_; subst f5_))
 obtain ⟨Ao10, co10, eo10⟩ := Kd.R_slice HO605.out
 (first | subst eo10 | (injection eo10 with f1_ f2_ f3_; have f4_ := f1_.symm; have f5_ := f3_.symm; clear f1_ f2_ f3_; subst f4_; subst f5_))
 refine hK.out _ _ ⟨bc0_ BK601.out, bc1_ BK601.out, bc2_ BK601.out, bc3_ BK601.out, bc4_ BK601.out⟩ (fun hHeld => ?_)
 clear hK K
 refine no_ 8 ?_
 refine pt_ 8 11 511 ?_
 refine one_ (i := 9) (N := none) (lz_ 10 1023) rfl rfl (one_of HT_.out (by kernel_rfl)) (by decide) (fun K hK => ?_)
 have hs11 := bc0_ BK602.out
 have hfs11 := blk_frozen BK602.out 0
 have hns11_0 := NB601_602.out
 have hms11_0 := NB602_601.out
 have hs12 := bc1_ BK602.out
 have hfs12 := blk_frozen BK602.out 1
 have hns12_0 := NB601_602.out
 have hms12_0 := NB602_601.out
 have hs13 := bc2_ BK602.out
 have hfs13 := blk_frozen BK602.out 2
 have hns13_0 := NB601_602.out
 have hms13_0 := NB602_601.out
 have hs14 := bc3_ BK602.out
 have hfs14 := blk_frozen BK602.out 3
 have hns14_0 := NB601_602.out
 have hms14_0 := NB602_601.out
 have hs15 := bc4_ BK602.out
 have hfs15 := blk_frozen BK602.out 4
 have hns15_0 := NB601_602.out
 have hms15_0 := NB602_601.out
 refine skip_ (w1 := ?_) (by rfl) rfl ?_ ?_
 rotate_left
 ·go_simp
  rfl
 refine hK.out _ _ ⟨((cell_far (p := ⟨gb602, _, none⟩) NB601_602.out _).trans (((cell_far (p := ⟨gb602, _, none⟩) NB601_602.out _).trans (((cell_far (p := ⟨gb602, _, none⟩) NB601_602.out _).trans (((cell_far (p := ⟨gb602, _, none⟩) NB601_602.out _).trans (((cell_far (p := ⟨gb602, _, none⟩) NB601_602.out _).trans (hHeld.1)))))))))), ((cell_far (p := ⟨gb602, _, none⟩) NB601_602.out _).trans (((cell_far (p := ⟨gb602, _, none⟩) NB601_602.out _).trans (((cell_far (p := ⟨gb602, _, none⟩) NB601_602.out _).trans (((cell_far (p := ⟨gb602, _, none⟩) NB601_602.out _).trans (((cell_far (p := ⟨gb602, _, none⟩) NB601_602.out _).trans (hHeld.2.1)))))))))), ((cell_far (p := ⟨gb602, _, none⟩) NB601_602.out _).trans (((cell_far (p := ⟨gb602, _, none⟩) NB601_602.out _).trans (((cell_far (p := ⟨gb602, _, none⟩) NB601_602.out _).trans (((cell_far (p := ⟨gb602, _, none⟩) NB601_602.out _).trans (((cell_far (p := ⟨gb602, _, none⟩) NB601_602.out _).trans (hHeld.2.2.1)))))))))), ((cell_far (p := ⟨gb602, _, none⟩) NB601_602.out _).trans (((cell_far (p := ⟨gb602, _, none⟩) NB601_602.out _).trans (((cell_far (p := ⟨gb602, _, none⟩) NB601_602.out _).trans (((cell_far (p := ⟨gb602, _, none⟩) NB601_602.out _).trans (((cell_far (p := ⟨gb602, _, none⟩) NB601_602.out _).trans (hHeld.2.2.2.1)))))))))), ((cell_far (p := ⟨gb602, _, none⟩) NB601_602.out _).trans (((cell_far (p := ⟨gb602, _, none⟩) NB601_602.out _).trans (((cell_far (p := ⟨gb602, _, none⟩) NB601_602.out _).trans (((cell_far (p := ⟨gb602, _, none⟩) NB601_602.out _).trans (((cell_far (p := ⟨gb602, _, none⟩) NB601_602.out _).trans (hHeld.2.2.2.2))))))))))⟩ (fun hHeld => ?_)
 clear hK K
 refine done_ (done_of HT_.out (by kernel_rfl)) ?_
 try go_wp2
 refine bodyPost_ret (results_cell_row rfl _ _ gb602 41 #[.slice Ao10 t603.length co10, .int .i64 t606, .string t607, .slice Ao9 t608.length co9, .int .i64 a0_4] (0, 0) _ rfl (by exact kq_ BK602) Tryz.underlying41 rfl (by kernel_rfl)) rfl ?_
 exact ⟨_, _, e2_, by (with_reducible repeat (first | apply Kd.R_alloc | apply Kd.R_drewN | apply Kd.R_drew)); exact Kd.R_mono (Kd.R_far (p := ⟨gb602, 4, none⟩) (Kd.R_far (p := ⟨gb602, 3, none⟩) (Kd.R_far (p := ⟨gb602, 2, none⟩) (Kd.R_far (p := ⟨gb602, 1, none⟩) (Kd.R_far (p := ⟨gb602, 0, none⟩) (Kd.R_types HO605.out BK602.out (by decide)) (fun _ hk => hk.2) (.slice Ao10 t603.length co10)) (fun _ hk => hk.2) (.int .i64 t606)) (fun _ hk => hk.2) (.string t607)) (fun _ hk => hk.2) (.slice Ao9 t608.length co9)) (fun _ hk => hk.2) (.int .i64 a0_4)) (fun _ hk => trivial), by (with_reducible repeat (first | apply Kd.R_alloc | apply Kd.R_drewN | apply Kd.R_drew)); exact Kd.R_mono (Kd.R_far (p := ⟨gb602, 4, none⟩) (Kd.R_far (p := ⟨gb602, 3, none⟩) (Kd.R_far (p := ⟨gb602, 2, none⟩) (Kd.R_far (p := ⟨gb602, 1, none⟩) (Kd.R_far (p := ⟨gb602, 0, none⟩) (Kd.R_types HO610.out BK602.out (by decide)) (fun _ hk => hk.2) (.slice Ao10 t603.length co10)) (fun _ hk => hk.2) (.int .i64 t606)) (fun _ hk => hk.2) (.string t607)) (fun _ hk => hk.2) (.slice Ao9 t608.length co9)) (fun _ hk => hk.2) (.int .i64 a0_4)) (fun _ hk => trivial), bw_ HB⟩
def spec_l12Copy.f (l0_0 : List ByteArray) (a0_1 : Int) (a0_2 : ByteArray) (l0_3 : List Int) (a0_4 : Int) : Option (List ByteArray × Int × ByteArray × List Int × Int) := (spec_l11Copy.f l0_0 a0_1 a0_2).bind fun bt603 => ((some (([] : List Int) : List Int)).bind fun y608 => (if y608.length + l0_3.length < 140737488355328 then (some (bt603.1, bt603.2.1, bt603.2.2, (y608 ++ l0_3), a0_4)) else (none)))
def spec_l12Copy.T1 : Bool × List (List Nat × List Nat) := (true, [([], []), ([0], [0]), ([1], [1]), ([], []), ([], []), ([4], [4]), ([3, 5, 2], [3, 5]), ([], []), ([7], [7]), ([2, 6, 8], [2, 6, 8]), ([9, 6, 0, 1, 2, 3, 4, 5, 6, 7, 8, 9], [9])])
def spec_l12Copy.B1 : List Nat := [0, 1, 3, 0, 0, 16, 63, 0, 128, 511, 1023]
theorem spec_l12Copy.tab1 : rtab .any (opsOf Tryz.f93 1) = spec_l12Copy.T1 := by kernel_rfl
theorem spec_l12Copy.bits1 : waitsOk spec_l12Copy.T1.2 spec_l12Copy.B1 = true := by kernel_rfl
set_option maxHeartbeats 8000000 in
set_option maxRecDepth 100000 in
theorem spec_l12Copy.calls (A0_0 : Option Addr) (c0_0 : Nat) (l0_0 : List ByteArray) (a0_1 : Int) (a0_2 : ByteArray) (A0_3 : Option Addr) (c0_3 : Nat) (l0_3 : List Int) (a0_4 : Int) (r1 : List ByteArray) (r2 : Int) (r3 : ByteArray) (r4 : List Int) (r5 : Int) (w : World) (hr0_0 : Kd.C Kd.string w A0_0 l0_0.length l0_0) (hc0_0 : l0_0.length ≤ c0_0) (hr0_3 : Kd.C (Kd.int .u8) w A0_3 l0_3.length l0_3) (hc0_3 : l0_3.length ≤ c0_3) (h : spec_l12Copy.f l0_0 a0_1 a0_2 l0_3 a0_4 = some (r1, r2, r3, r4, r5)) :
  Calls Tryz.prog 93 #[.agg #[.slice A0_0 l0_0.length c0_0, .int .i64 a0_1, .string a0_2, .slice A0_3 l0_3.length c0_3, .int .i64 a0_4]] w fun e w' => ∃ v0_ v3_ : Value, e = .returned (.agg #[v0_, .int .i64 r2, .string r3, v3_, .int .i64 r5]) ∧ Kd.R Kd.string 9 w' w.heap.size (fun _ => True) v0_ r1 ∧ Kd.R (Kd.int .u8) 5 w' w.heap.size (fun _ => True) v3_ r4 ∧ Below w.heap.size w w' := by
 have hu41 := Tryz.underlying41
 have hu39 := Tryz.underlying39
 have HR0_0 := Aside0.mk hr0_0
 have HC0_0 := Aside0.mk hc0_0
 clear hr0_0 hc0_0
 have HR0_3 := Aside0.mk hr0_3
 have HC0_3 := Aside0.mk hc0_3
 clear hr0_3 hc0_3
 have HB := Aside0.mk (Below.refl w.heap.size w)
 have H : ((spec_l11Copy.f l0_0 a0_1 a0_2).bind fun bt603 => ((some (([] : List Int) : List Int)).bind fun y608 => (if y608.length + l0_3.length < 140737488355328 then (some (bt603.1, bt603.2.1, bt603.2.2, (y608 ++ l0_3), a0_4)) else (none)))) = some (r1, r2, r3, r4, r5) := h
 clear h
 replace H := bi_ H; obtain ⟨⟨t603, t606, t607⟩, A2, H⟩ := H
 dsimp only at H
 obtain ⟨y608, Ny608, H⟩ := sb_ (([] : List Int)) H
 replace H := ip_ H; obtain ⟨c3, H⟩ := H
 have LMc3 := Aside0.mk c3
 clear c3
 obtain ⟨y611, hy611⟩ : ∃ y_ : List Int, y_ = (y608 ++ l0_3) := ⟨_, rfl⟩
 replace H : (some (t603, t606, t607, y611, a0_4)) = some (r1, r2, r3, r4, r5) := yh_ hy611 H
 have Ny611 := Aside0.mk hy611
 clear hy611
 replace H := so5_ H; obtain ⟨rfl, rfl, rfl, rfl, rfl⟩ := H
 go_enter Tryz.func93, Tryz.ntmps93
 try go_wp2_with (first | ((with_reducible refine gd_ 1 ?_); refine bx_ 1 41 #[.slice A0_0 l0_0.length c0_0, .int .i64 a0_1, .string a0_2, .slice A0_3 l0_3.length c0_3, .int .i64 a0_4] ?_; intro gb601 hg w4 hbox hb; have BK601 := Aside0.mk hbox; have GW601 := gg_ hg HB; have GE601 := GW601; replace HB := ss_ HB hb; clear hb hbox hg) | ((with_reducible refine gd_ 2 ?_); refine bx_ 2 41 #[.slice none 0 0, .int .i64 0, .string (⟨#[]⟩ : ByteArray), .slice none 0 0, .int .i64 0] ?_; intro gb602 hg w5 hbox hb; have BK602 := Aside0.mk hbox; have GW602 := gg_ hg HB; have GE602 := GW602; replace HB := ss_ HB hb; have NB601_602 := nla_ hg BK601; have NB602_601 := nga_ hg BK601; replace BK601 := kl_ BK601 hb; clear hb hbox hg))
 replace BK601 := Aside0.mk (blk_drew BK601.out)
 replace BK602 := Aside0.mk (blk_drew BK602.out)
 replace HB := Aside0.mk (below_drew1 HB.out)
 refine start_ (n := 11) (S := fun w' => w'.cell? ⟨gb601, 0, none⟩ = some (.slice A0_0 l0_0.length c0_0) ∧ w'.cell? ⟨gb601, 1, none⟩ = some (.int .i64 a0_1) ∧ w'.cell? ⟨gb601, 2, none⟩ = some (.string a0_2) ∧ w'.cell? ⟨gb601, 3, none⟩ = some (.slice A0_3 l0_3.length c0_3) ∧ w'.cell? ⟨gb601, 4, none⟩ = some (.int .i64 a0_4)) (ds := []) (lz_ 11 0) (by kernel_rfl) rfl rfl ⟨bc0_ BK601.out, bc1_ BK601.out, bc2_ BK601.out, bc3_ BK601.out, bc4_ BK601.out⟩ (fun hHeld => ?_); refine with_tabW spec_l12Copy.tab1 spec_l12Copy.bits1 (fun HT_ HW_ => ?_)
 generalize w5.drew = w6 at BK601 BK602 HB hHeld ⊢
 refine pt_ 0 3 1 ?_
 refine pt_ 4 7 17 ?_
 refine pt_ 7 10 145 ?_
 refine tt_ 1 4 147 ?_
 refine tt_ 5 8 179 ?_
 refine tt_ 8 11 435 ?_
 refine join_ (σ := Value × Value) 3 (lz_ 11 447) (fun s_ => [(5, .agg #[s_.1, .int .i64 t606, .string t607]), (6, s_.2)]) (fun s_ w' => (w'.cell? ⟨gb601, 0, none⟩ = some (.slice A0_0 l0_0.length c0_0) ∧ w'.cell? ⟨gb601, 1, none⟩ = some (.int .i64 a0_1) ∧ w'.cell? ⟨gb601, 2, none⟩ = some (.string a0_2) ∧ w'.cell? ⟨gb601, 3, none⟩ = some (.slice A0_3 l0_3.length c0_3) ∧ w'.cell? ⟨gb601, 4, none⟩ = some (.int .i64 a0_4)) ∧ (Kd.R Kd.string 9 w' w.heap.size (fun _ => True) s_.1 t603) ∧ (Kd.R (Kd.int .u8) 5 w' w.heap.size (fun _ => True) s_.2 y608) ∧ (w'.heap[gb601]? = some (.cells #[.slice A0_0 l0_0.length c0_0, .int .i64 a0_1, .string a0_2, .slice A0_3 l0_3.length c0_3, .int .i64 a0_4] 41 (0, 0))) ∧ (w'.heap[gb602]? = some (.cells #[.slice none 0 0, .int .i64 0, .string (⟨#[]⟩ : ByteArray), .slice none 0 0, .int .i64 0] 41 (0, 0))) ∧ (Below w.heap.size w w')) ?_ ?_
 rotate_left
 ·intro hCont
  refine two_ (i := 2) (j := 3) (Ni := some 5) (Nj := some 6) (lz_ 11 439) (lz_ 11 443) rfl rfl rfl rfl (two_of HT_.out (by kernel_rfl)) (by decide) (by decide) (fun K hK => ?_) (fun K hK => ?_)
  ·skip
   refine gf_ Tryz.func125 (spec_l11Copy.calls _ _ l0_0 a0_1 a0_2 t603 t606 t607 _ (cb_ HR0_0 HB) HC0_0.out A2.out) ?_
   rintro e w7 ⟨v604, rfl, ho0, hb⟩
   refine ⟨_, rfl, ?_⟩
   have HO605 := Aside0.mk (Kd.R_lower ho0 (sz_ HB))
   replace BK601 := kl_ BK601 hb
   replace BK602 := kl_ BK602 hb
   replace HB := ss_ HB hb
   clear hb ho0
   refine hK.out _ _ ⟨bc0_ BK601.out, bc1_ BK601.out, bc2_ BK601.out, bc3_ BK601.out, bc4_ BK601.out⟩ (fun hHeld => ?_)
   clear hK K
   refine no_ 5 ?_
   refine one_ (i := 3) (N := some 6) (lz_ 11 447) rfl rfl (one_of HT_.out (by kernel_rfl)) (by decide) (fun K hK => ?_)
   refine Kd.R_lit_step (Kd.int .u8) _ 5 ?hg (N := 6) ?hd (xs := ([] : List Int)) (inner := []) (ok := fun _ => True) (okp := fun _ => True) ?hr ?hp (fun _ hk => hk) trivial (Below.refl _ _) (Nat.le_refl _) (by simp) ?_; (case hd => rfl); (case hg => rfl); (case hr => first | (go_simp; done) | (go_simp; rfl)); (case hp => exact (Reps.none _ _))
   intro v609 w8 ho9 hb hg_ hnew_
   clear hg_ hnew_
   (first | rw [← Ny608.out] at ho9 | (simp only [Int.reduceToNat] at ho9; rw [← Ny608.out] at ho9))
   replace HO605 := rb_ HO605 hb
   have HO610 := Aside0.mk (Kd.R_lower ho9 (sz_ HB))
   replace BK601 := kl_ BK601 hb
   replace BK602 := kl_ BK602 hb
   replace HB := ss_ HB hb
   clear hb ho9
   refine hK.out _ _ ⟨bc0_ BK601.out, bc1_ BK601.out, bc2_ BK601.out, bc3_ BK601.out, bc4_ BK601.out⟩ (fun hHeld => ?_)
   clear hK K
   refine no_ 6 ?_
   exact norm_ (by simp only [putAll, Act.put, List.setIfInBounds_toArray, List.set_cons_zero, List.set_cons_succ]) (hCont (v604, v609) _ ⟨hHeld, (kr_ HO605.out), (kr_ HO610.out), (kb_ BK601.out), (kb_ BK602.out), (bw_ HB)⟩)
  ·skip
   refine Kd.R_lit_step (Kd.int .u8) _ 5 ?hg (N := 6) ?hd (xs := ([] : List Int)) (inner := []) (ok := fun _ => True) (okp := fun _ => True) ?hr ?hp (fun _ hk => hk) trivial (Below.refl _ _) (Nat.le_refl _) (by simp) ?_; (case hd => rfl); (case hg => rfl); (case hr => first | (go_simp; done) | (go_simp; rfl)); (case hp => exact (Reps.none _ _))
   intro v609 w7 ho8 hb hg_ hnew_
   clear hg_ hnew_
   (first | rw [← Ny608.out] at ho8 | (simp only [Int.reduceToNat] at ho8; rw [← Ny608.out] at ho8))
   have HO610 := Aside0.mk (Kd.R_lower ho8 (sz_ HB))
   replace BK601 := kl_ BK601 hb
   replace BK602 := kl_ BK602 hb
   replace HB := ss_ HB hb
   clear hb ho8
   refine hK.out _ _ ⟨bc0_ BK601.out, bc1_ BK601.out, bc2_ BK601.out, bc3_ BK601.out, bc4_ BK601.out⟩ (fun hHeld => ?_)
   clear hK K
   refine no_ 6 ?_
   refine one_ (i := 2) (N := some 5) (lz_ 11 447) rfl rfl (one_of HT_.out (by kernel_rfl)) (by decide) (fun K hK => ?_)
   refine gf_ Tryz.func125 (spec_l11Copy.calls _ _ l0_0 a0_1 a0_2 t603 t606 t607 _ (cb_ HR0_0 HB) HC0_0.out A2.out) ?_
   rintro e w9 ⟨v604, rfl, ho0, hb⟩
   refine ⟨_, rfl, ?_⟩
   replace HO610 := rb_ HO610 hb
   have HO605 := Aside0.mk (Kd.R_lower ho0 (sz_ HB))
   replace BK601 := kl_ BK601 hb
   replace BK602 := kl_ BK602 hb
   replace HB := ss_ HB hb
   clear hb ho0
   refine hK.out _ _ ⟨bc0_ BK601.out, bc1_ BK601.out, bc2_ BK601.out, bc3_ BK601.out, bc4_ BK601.out⟩ (fun hHeld => ?_)
   clear hK K
   refine no_ 5 ?_
   exact norm_ (by simp only [putAll, Act.put, List.setIfInBounds_toArray, List.set_cons_zero, List.set_cons_succ]) (hCont (v604, v609) _ ⟨hHeld, (kr_ HO605.out), (kr_ HO610.out), (kb_ BK601.out), (kb_ BK602.out), (bw_ HB)⟩)
 rintro ⟨v604, v609⟩ w10 ⟨hS_, h0_, h1_, h2_, h3_, h4_⟩
 have n0_ : Aside0 (Kd.R Kd.string 9 w10 w.heap.size (fun _ => True) v604 t603) := ⟨h0_⟩
 have n1_ : Aside0 (Kd.R (Kd.int .u8) 5 w10 w.heap.size (fun _ => True) v609 y608) := ⟨h1_⟩
 have n2_ : Aside0 (w10.heap[gb601]? = some (.cells #[.slice A0_0 l0_0.length c0_0, .int .i64 a0_1, .string a0_2, .slice A0_3 l0_3.length c0_3, .int .i64 a0_4] 41 (0, 0))) := ⟨h2_⟩
 have n3_ : Aside0 (w10.heap[gb602]? = some (.cells #[.slice none 0 0, .int .i64 0, .string (⟨#[]⟩ : ByteArray), .slice none 0 0, .int .i64 0] 41 (0, 0))) := ⟨h3_⟩
 have n4_ : Aside0 (Below w.heap.size w w10) := ⟨h4_⟩
 clear BK601
 clear BK602
 clear HB
 clear h0_ h1_ h2_ h3_ h4_
 have HO605 := n0_
 have HO610 := n1_
 have BK601 := n2_
 have BK602 := n3_
 have HB := n4_
 clear n0_ n1_ n2_ n3_ n4_
 have hHeld : w10.cell? ⟨gb601, 0, none⟩ = some (.slice A0_0 l0_0.length c0_0) ∧ w10.cell? ⟨gb601, 1, none⟩ = some (.int .i64 a0_1) ∧ w10.cell? ⟨gb601, 2, none⟩ = some (.string a0_2) ∧ w10.cell? ⟨gb601, 3, none⟩ = some (.slice A0_3 l0_3.length c0_3) ∧ w10.cell? ⟨gb601, 4, none⟩ = some (.int .i64 a0_4) := hS_
 refine nj_ ?_
 refine one_ (i := 6) (N := some 9) (lz_ 11 511) rfl rfl (one_of HT_.out (by kernel_rfl)) (by decide) (fun K hK => ?_)
 refine Kd.R_append_rows_step (Kd.int .u8) (w0 := w) w.heap.size (by rfl) (.tmp 6) (.tmp 8) 27 5 (.int .u8 0) 1 rfl Tryz.underlying27 info5 rfl (by decide) (by omega) v609 y608 l0_3 _ _ _ (fun _ => True) (fun _ => False) rfl rfl ?aO ?aR (fun _ _ h => h) (fun _ h => h.elim) ?aF ?aB ?aS ?aL ?_
 (case aR => exact cb_ HR0_3 HB)
 (case aB => exact (bw_ HB))
 (case aF => exact (fun _ _ => trivial))
 (case aO => exact (kr_ HO610.out))
 (case aS => exact (sz_ HB))
 (case aL => have := LMc3.out; omega)
 intro v612 w11 ho hb hg hat
 rw [← Ny611.out] at ho
 replace BK601 := kg_ BK601 HO610 hg
 replace BK602 := kg_ BK602 HO610 hg
 replace HO605 := Aside0.mk (Kd.R_over' (kr_ HO605.out) (Kd.R_typed (kr_ HO610.out)) (by decide) hg)
 replace HB := Aside0.mk hb
 have HO613 := Aside0.mk ho
 clear HO610
 clear ho hb hg hat
 obtain ⟨Ao12, co12, eo12⟩ := Kd.R_slice HO613.out
 (first | subst eo12 | (injection eo12 with f1_ f2_ f3_; have f4_ := f1_.symm; have f5_ := f3_.symm; clear f1_ f2_ f3_; subst f4_; subst f5_))
 obtain ⟨Ao13, co13, eo13⟩ := Kd.R_slice HO605.out
 (first | subst eo13 | (injection eo13 with f1_ f2_ f3_; have f4_ := f1_.symm; have f5_ := f3_.symm; clear f1_ f2_ f3_; subst f4_; subst f5_))
 refine hK.out _ _ ⟨bc0_ BK601.out, bc1_ BK601.out, bc2_ BK601.out, bc3_ BK601.out, bc4_ BK601.out⟩ (fun hHeld => ?_)
 clear hK K
 refine no_ 9 ?_
 refine pt_ 9 12 1023 ?_
 refine one_ (i := 10) (N := none) (lz_ 11 2047) rfl rfl (one_of HT_.out (by kernel_rfl)) (by decide) (fun K hK => ?_)
 have hs14 := bc0_ BK602.out
 have hfs14 := blk_frozen BK602.out 0
 have hns14_0 := NB601_602.out
 have hms14_0 := NB602_601.out
 have hs15 := bc1_ BK602.out
 have hfs15 := blk_frozen BK602.out 1
 have hns15_0 := NB601_602.out
 have hms15_0 := NB602_601.out
 have hs16 := bc2_ BK602.out
 have hfs16 := blk_frozen BK602.out 2
 have hns16_0 := NB601_602.out
 have hms16_0 := NB602_601.out
 have hs17 := bc3_ BK602.out
 have hfs17 := blk_frozen BK602.out 3
 have hns17_0 := NB601_602.out
 have hms17_0 := NB602_601.out
 have hs18 := bc4_ BK602.out
 have hfs18 := blk_frozen BK602.out 4
 have hns18_0 := NB601_602.out
 have hms18_0 := NB602_601.out
 refine skip_ (w1 := ?_) (by rfl) rfl ?_ ?_
 rotate_left
 ·go_simp
  rfl
 refine hK.out _ _ ⟨((cell_far (p := ⟨gb602, _, none⟩) NB601_602.out _).trans (((cell_far (p := ⟨gb602, _, none⟩) NB601_602.out _).trans (((cell_far (p := ⟨gb602, _, none⟩) NB601_602.out _).trans (((cell_far (p := ⟨gb602, _, none⟩) NB601_602.out _).trans (((cell_far (p := ⟨gb602, _, none⟩) NB601_602.out _).trans (hHeld.1)))))))))), ((cell_far (p := ⟨gb602, _, none⟩) NB601_602.out _).trans (((cell_far (p := ⟨gb602, _, none⟩) NB601_602.out _).trans (((cell_far (p := ⟨gb602, _, none⟩) NB601_602.out _).trans (((cell_far (p := ⟨gb602, _, none⟩) NB601_602.out _).trans (((cell_far (p := ⟨gb602, _, none⟩) NB601_602.out _).trans (hHeld.2.1)))))))))), ((cell_far (p := ⟨gb602, _, none⟩) NB601_602.out _).trans (((cell_far (p := ⟨gb602, _, none⟩) NB601_602.out _).trans (((cell_far (p := ⟨gb602, _, none⟩) NB601_602.out _).trans (((cell_far (p := ⟨gb602, _, none⟩) NB601_602.out _).trans (((cell_far (p := ⟨gb602, _, none⟩) NB601_602.out _).trans (hHeld.2.2.1)))))))))), ((cell_far (p := ⟨gb602, _, none⟩) NB601_602.out _).trans (((cell_far (p := ⟨gb602, _, none⟩) NB601_602.out _).trans (((cell_far (p := ⟨gb602, _, none⟩) NB601_602.out _).trans (((cell_far (p := ⟨gb602, _, none⟩) NB601_602.out _).trans (((cell_far (p := ⟨gb602, _, none⟩) NB601_602.out _).trans (hHeld.2.2.2.1)))))))))), ((cell_far (p := ⟨gb602, _, none⟩) NB601_602.out _).trans (((cell_far (p := ⟨gb602, _, none⟩) NB601_602.out _).trans (((cell_far (p := ⟨gb602, _, none⟩) NB601_602.out _).trans (((cell_far (p := ⟨gb602, _, none⟩) NB601_602.out _).trans (((cell_far (p := ⟨gb602, _, none⟩) NB601_602.out _).trans (hHeld.2.2.2.2))))))))))⟩ (fun hHeld => ?_)
 clear hK K
 refine done_ (done_of HT_.out (by kernel_rfl)) ?_
 try go_wp2
 refine bodyPost_ret (results_cell_row rfl _ _ gb602 41 #[.slice Ao13 t603.length co13, .int .i64 t606, .string t607, .slice Ao12 y611.length co12, .int .i64 a0_4] (0, 0) _ rfl (by exact kq_ BK602) Tryz.underlying41 rfl (by kernel_rfl)) rfl ?_
 exact ⟨_, _, e2_, by (with_reducible repeat (first | apply Kd.R_alloc | apply Kd.R_drewN | apply Kd.R_drew)); exact Kd.R_mono (Kd.R_far (p := ⟨gb602, 4, none⟩) (Kd.R_far (p := ⟨gb602, 3, none⟩) (Kd.R_far (p := ⟨gb602, 2, none⟩) (Kd.R_far (p := ⟨gb602, 1, none⟩) (Kd.R_far (p := ⟨gb602, 0, none⟩) (Kd.R_types HO605.out BK602.out (by decide)) (fun _ hk => hk.2) (.slice Ao13 t603.length co13)) (fun _ hk => hk.2) (.int .i64 t606)) (fun _ hk => hk.2) (.string t607)) (fun _ hk => hk.2) (.slice Ao12 y611.length co12)) (fun _ hk => hk.2) (.int .i64 a0_4)) (fun _ hk => trivial), by (with_reducible repeat (first | apply Kd.R_alloc | apply Kd.R_drewN | apply Kd.R_drew)); exact Kd.R_mono (Kd.R_far (p := ⟨gb602, 4, none⟩) (Kd.R_far (p := ⟨gb602, 3, none⟩) (Kd.R_far (p := ⟨gb602, 2, none⟩) (Kd.R_far (p := ⟨gb602, 1, none⟩) (Kd.R_far (p := ⟨gb602, 0, none⟩) (Kd.R_types HO613.out BK602.out (by decide)) (fun _ hk => hk.2) (.slice Ao13 t603.length co13)) (fun _ hk => hk.2) (.int .i64 t606)) (fun _ hk => hk.2) (.string t607)) (fun _ hk => hk.2) (.slice Ao12 y611.length co12)) (fun _ hk => hk.2) (.int .i64 a0_4)) (fun _ hk => trivial), bw_ HB⟩
end Go.Proofs.YtnlndmoecljicaaGreat.Q
end
section
namespace Go.Proofs.YtnlndmoecljicaaGreat.Q
open Go.RowKit Go.Proofs.YtnlndmoecljicaaGreat.B Go.Proofs.YtnlndmoecljicaaGreatW.PrintWords
theorem impl_copyStore_eq (l : List ByteArray) (n : Int) (s : ByteArray) (b : List Int) (u : Int) (hl : l.length < 8796093022208) (hb : b.length < 140737488355328) : impl_copyStore.f l n s b u = some (l, n, s, b, u) := by
 unfold impl_copyStore.f slices_Clone_byte_byte.f
 rw [impl_copyLog_eq l n s hl, if_pos (show b.length ≤ 140737488355328 by omega)]
 rfl
theorem spec_l12Copy_eq (l : List ByteArray) (n : Int) (s : ByteArray) (b : List Int) (u : Int) (hl : l.length < 8796093022208) (hb : b.length < 140737488355328) : spec_l12Copy.f l n s b u = some (l, n, s, b, u) := by
 unfold spec_l12Copy.f
 rw [spec_l11Copy_eq l n s hl]
 simp only [Option.bind_some, List.length_nil, List.nil_append]
 rw [if_pos (by omega)]
end Go.Proofs.YtnlndmoecljicaaGreat.Q
end
section
namespace Go.Proofs.YtnlndmoecljicaaGreat.Q
open Go.RowKit Go.Proofs.YtnlndmoecljicaaGreatW.PrintWords Go.Proofs.YtnlndmoecljicaaGreatW.PrintLast Go.Proofs.YtnlndmoecljicaaGreatW.PrintMore
attribute [local go_sem] max2_int min2_int max_two min_two max_three min_three max_four min_four   -- for this text's walks alone
set_option linter.unusedVariables false
set_option linter.unusedSimpArgs false
def impl_copyMirror.f (a0_0 : Int) (l0_1 : List ByteArray) (a0_2 : Int) (a0_3 : ByteArray) (l0_4 : List Int) (a0_5 : Int) (a0_6 : Int) (a0_7 : ByteArray) : Option (Int × List ByteArray × Int × ByteArray × List Int × Int × Int × ByteArray) := (impl_copyStore.f l0_1 a0_2 a0_3 l0_4 a0_5).bind fun bt603 => (some (a0_0, bt603.1, bt603.2.1, bt603.2.2.1, bt603.2.2.2.1, bt603.2.2.2.2, a0_6, a0_7))
set_option maxHeartbeats 8000000 in
set_option maxRecDepth 100000 in
theorem impl_copyMirror.calls (a0_0 : Int) (A0_1 : Option Addr) (c0_1 : Nat) (l0_1 : List ByteArray) (a0_2 : Int) (a0_3 : ByteArray) (A0_4 : Option Addr) (c0_4 : Nat) (l0_4 : List Int) (a0_5 : Int) (a0_6 : Int) (a0_7 : ByteArray) (r1 : Int) (r2 : List ByteArray) (r3 : Int) (r4 : ByteArray) (r5 : List Int) (r6 : Int) (r7 : Int) (r8 : ByteArray) (w : World) (hr0_1 : Kd.C Kd.string w A0_1 l0_1.length l0_1) (hc0_1 : l0_1.length ≤ c0_1) (hr0_4 : Kd.C (Kd.int .u8) w A0_4 l0_4.length l0_4) (hc0_4 : l0_4.length ≤ c0_4) (h : impl_copyMirror.f a0_0 l0_1 a0_2 a0_3 l0_4 a0_5 a0_6 a0_7 = some (r1, r2, r3, r4, r5, r6, r7, r8)) :
  Calls Tryz.prog 54 #[.agg #[.int .i64 a0_0, .slice A0_1 l0_1.length c0_1, .int .i64 a0_2, .string a0_3, .slice A0_4 l0_4.length c0_4, .int .i64 a0_5, .int .i64 a0_6, .string a0_7]] w fun e w' => ∃ v1_ v4_ : Value, e = .returned (.agg #[.int .i64 r1, v1_, .int .i64 r3, .string r4, v4_, .int .i64 r6, .int .i64 r7, .string r8]) ∧ Kd.R Kd.string 9 w' w.heap.size (fun _ => True) v1_ r2 ∧ Kd.R (Kd.int .u8) 5 w' w.heap.size (fun _ => True) v4_ r5 ∧ Below w.heap.size w w' := by
 have hu43 := Tryz.underlying43
 have hu41 := Tryz.underlying41
 have HR0_1 := Aside0.mk hr0_1
 have HC0_1 := Aside0.mk hc0_1
 clear hr0_1 hc0_1
 have HR0_4 := Aside0.mk hr0_4
 have HC0_4 := Aside0.mk hc0_4
 clear hr0_4 hc0_4
 have HB := Aside0.mk (Below.refl w.heap.size w)
 have H : ((impl_copyStore.f l0_1 a0_2 a0_3 l0_4 a0_5).bind fun bt603 => (some (a0_0, bt603.1, bt603.2.1, bt603.2.2.1, bt603.2.2.2.1, bt603.2.2.2.2, a0_6, a0_7))) = some (r1, r2, r3, r4, r5, r6, r7, r8) := h
 clear h
 replace H := bi_ H; obtain ⟨⟨t603, t606, t607, t608, t611⟩, A2, H⟩ := H
 dsimp only at H
 replace H := so8_ H; obtain ⟨rfl, rfl, rfl, rfl, rfl, rfl, rfl, rfl⟩ := H
 go_enter Tryz.func54, Tryz.ntmps54
 go_wp2_with (first | ((with_reducible refine gd_ 1 ?_); refine bx_ 1 43 #[.int .i64 a0_0, .slice A0_1 l0_1.length c0_1, .int .i64 a0_2, .string a0_3, .slice A0_4 l0_4.length c0_4, .int .i64 a0_5, .int .i64 a0_6, .string a0_7] ?_; intro gb601 hg w3 hbox hb; have BK601 := Aside0.mk hbox; have GW601 := gg_ hg HB; have GE601 := GW601; replace HB := ss_ HB hb; clear hb hbox hg) | ((with_reducible refine gd_ 2 ?_); refine bx_ 2 43 #[.int .i64 0, .slice none 0 0, .int .i64 0, .string (⟨#[]⟩ : ByteArray), .slice none 0 0, .int .i64 0, .int .i64 0, .string (⟨#[]⟩ : ByteArray)] ?_; intro gb602 hg w4 hbox hb; have BK602 := Aside0.mk hbox; have GW602 := gg_ hg HB; have GE602 := GW602; replace HB := ss_ HB hb; have NB601_602 := nla_ hg BK601; have NB602_601 := nga_ hg BK601; replace BK601 := kl_ BK601 hb; clear hb hbox hg; have hnb5 := NB601_602.out; have hnc5 := NB602_601.out; have hcz6 := cz8_ BK601) | ((with_reducible refine gq_ 90 5 ?_); refine gc_ 5 Tryz.func90 (impl_copyStore.calls _ _ l0_1 a0_2 a0_3 _ _ l0_4 a0_5 t603 t606 t607 t608 t611 _ (cb_ HR0_1 HB) HC0_1.out (cb_ HR0_4 HB) HC0_4.out A2.out) ?_; rintro e w7 ⟨v604, v609, rfl, ho0, ho1, hb⟩; refine ⟨_, rfl, ?_⟩; have HO605 := Aside0.mk (Kd.R_lower ho0 (sz_ HB)); have HO610 := Aside0.mk (Kd.R_lower ho1 (sz_ HB)); replace BK601 := kl_ BK601 hb; replace BK602 := kl_ BK602 hb; replace HB := ss_ HB hb; clear hb ho0 ho1; obtain ⟨Ao8, co8, eo8⟩ := Kd.R_slice HO605.out; subst eo8; have hcz9 := cz8_ BK601; obtain ⟨Ao10, co10, eo10⟩ := Kd.R_slice HO610.out; subst eo10; have hcz11 := cz8_ BK602))
 refine bodyPost_ret (results_cell_row rfl _ _ gb602 43 #[.int .i64 a0_0, .slice Ao8 t603.length co8, .int .i64 t606, .string t607, .slice Ao10 t608.length co10, .int .i64 t611, .int .i64 a0_6, .string a0_7] (0, 0) _ rfl (by exact kq_ BK602) Tryz.underlying43 rfl (by kernel_rfl)) rfl ?_
 exact ⟨_, _, e2_, by (with_reducible repeat (first | apply Kd.R_alloc | apply Kd.R_drewN | apply Kd.R_drew)); exact Kd.R_mono (Kd.R_far (p := ⟨gb602, 7, none⟩) (Kd.R_far (p := ⟨gb602, 6, none⟩) (Kd.R_far (p := ⟨gb602, 5, none⟩) (Kd.R_far (p := ⟨gb602, 4, none⟩) (Kd.R_far (p := ⟨gb602, 3, none⟩) (Kd.R_far (p := ⟨gb602, 2, none⟩) (Kd.R_far (p := ⟨gb602, 1, none⟩) (Kd.R_far (p := ⟨gb602, 0, none⟩) (Kd.R_far (p := ⟨gb601, 5, none⟩) (Kd.R_far (p := ⟨gb601, 4, none⟩) (Kd.R_far (p := ⟨gb601, 3, none⟩) (Kd.R_far (p := ⟨gb601, 2, none⟩) (Kd.R_far (p := ⟨gb601, 1, none⟩) (Kd.R_types (Kd.R_types HO605.out BK601.out (by decide)) BK602.out (by decide)) (fun _ hk => hk.1.2) (.slice Ao8 t603.length co8)) (fun _ hk => hk.1.2) (.int .i64 t606)) (fun _ hk => hk.1.2) (.string t607)) (fun _ hk => hk.1.2) (.slice Ao10 t608.length co10)) (fun _ hk => hk.1.2) (.int .i64 t611)) (fun _ hk => hk.2) (.int .i64 a0_0)) (fun _ hk => hk.2) (.slice Ao8 t603.length co8)) (fun _ hk => hk.2) (.int .i64 t606)) (fun _ hk => hk.2) (.string t607)) (fun _ hk => hk.2) (.slice Ao10 t608.length co10)) (fun _ hk => hk.2) (.int .i64 t611)) (fun _ hk => hk.2) (.int .i64 a0_6)) (fun _ hk => hk.2) (.string a0_7)) (fun _ hk => trivial), by (with_reducible repeat (first | apply Kd.R_alloc | apply Kd.R_drewN | apply Kd.R_drew)); exact Kd.R_mono (Kd.R_far (p := ⟨gb602, 7, none⟩) (Kd.R_far (p := ⟨gb602, 6, none⟩) (Kd.R_far (p := ⟨gb602, 5, none⟩) (Kd.R_far (p := ⟨gb602, 4, none⟩) (Kd.R_far (p := ⟨gb602, 3, none⟩) (Kd.R_far (p := ⟨gb602, 2, none⟩) (Kd.R_far (p := ⟨gb602, 1, none⟩) (Kd.R_far (p := ⟨gb602, 0, none⟩) (Kd.R_far (p := ⟨gb601, 5, none⟩) (Kd.R_far (p := ⟨gb601, 4, none⟩) (Kd.R_far (p := ⟨gb601, 3, none⟩) (Kd.R_far (p := ⟨gb601, 2, none⟩) (Kd.R_far (p := ⟨gb601, 1, none⟩) (Kd.R_types (Kd.R_types HO610.out BK601.out (by decide)) BK602.out (by decide)) (fun _ hk => hk.1.2) (.slice Ao8 t603.length co8)) (fun _ hk => hk.1.2) (.int .i64 t606)) (fun _ hk => hk.1.2) (.string t607)) (fun _ hk => hk.1.2) (.slice Ao10 t608.length co10)) (fun _ hk => hk.1.2) (.int .i64 t611)) (fun _ hk => hk.2) (.int .i64 a0_0)) (fun _ hk => hk.2) (.slice Ao8 t603.length co8)) (fun _ hk => hk.2) (.int .i64 t606)) (fun _ hk => hk.2) (.string t607)) (fun _ hk => hk.2) (.slice Ao10 t608.length co10)) (fun _ hk => hk.2) (.int .i64 t611)) (fun _ hk => hk.2) (.int .i64 a0_6)) (fun _ hk => hk.2) (.string a0_7)) (fun _ hk => trivial), bw_ HB⟩
end Go.Proofs.YtnlndmoecljicaaGreat.Q
end
section
namespace Go.Proofs.YtnlndmoecljicaaGreat.Q
open Go.RowKit Go.Proofs.YtnlndmoecljicaaGreatW.PrintWords Go.Proofs.YtnlndmoecljicaaGreatW.PrintLast Go.Proofs.YtnlndmoecljicaaGreatW.PrintMore
set_option linter.unusedVariables false
set_option linter.unusedSimpArgs false
def impl_SyncMirror.f (k : Nat) (a : Int) (l : List ByteArray) (b : Int) (c : ByteArray) (d : List Int) (e f : Int) (z : ByteArray) (t : List S37) : Option (Int × List ByteArray × Int × ByteArray × List Int × Int × Int × ByteArray) :=
 (impl_copyMirror.f a l b c d e f z).bind fun m => ((impl_MirrorOk.f k a l b c d e f z t).bind fun q => (if q = true then some (m.1, m.2.1, m.2.2.1, m.2.2.2.1, m.2.2.2.2.1, (m.2.2.2.2.1.length : Int), m.2.2.2.2.2.2.1, m.2.2.2.2.2.2.2) else some m))
set_option maxHeartbeats 8000000 in
set_option maxRecDepth 100000 in
theorem sync_calls (g : Nat) (a : Int) (A1 : Option Addr) (n1 c1 : Nat) (b : Int) (c : ByteArray) (A4 : Option Addr) (n4 c4 : Nat) (e f : Int) (z : ByteArray) (w : World) (hb : w.heap[g]? = some (.cells #[.int .i64 a, .slice A1 n1 c1, .int .i64 b, .string c, .slice A4 n4 c4, .int .i64 e, .int .i64 f, .string z] 43 (0, 0))) :
  Calls Tryz.prog 58 #[.pointer (some ⟨g, 0, none⟩)] w fun e w' => e = .returned (.tuple #[]) ∧ w' = w.setCell ⟨g, 5, none⟩ (.int .i64 (n4 : Int)) := by
 have B := Aside0.mk hb
 clear hb
 have hB_0 := bc0_ B.out; have fB_0 := blk_frozen B.out 0; have hB_1 := bc1_ B.out; have fB_1 := blk_frozen B.out 1; have hB_2 := bc2_ B.out; have fB_2 := blk_frozen B.out 2; have hB_3 := bc3_ B.out; have fB_3 := blk_frozen B.out 3; have hB_4 := bc4_ B.out; have fB_4 := blk_frozen B.out 4; have hB_5 := bc5_ B.out; have fB_5 := blk_frozen B.out 5; have hB_6 := bc6_ B.out; have fB_6 := blk_frozen B.out 6; have hB_7 := bc7_ B.out; have fB_7 := blk_frozen B.out 7
 go_enter Tryz.func58, Tryz.ntmps58
 go_wp2
 first | go_end0 | ((try simp only [Exit.inBlock, Exit.then]); refine bodyPost_ret (results_none rfl _ _ _) rfl ?_)
 exact ⟨rfl, rfl⟩
set_option maxHeartbeats 8000000 in
set_option maxRecDepth 100000 in
theorem impl_SyncMirror.calls (k : Nat) (a : Int) (A1 : Option Addr) (c1 : Nat) (l : List ByteArray) (b : Int) (c : ByteArray) (A4 : Option Addr) (c4 : Nat) (d : List Int) (e f : Int) (z : ByteArray) (A0 : Option Addr) (c0 : Nat) (t : List S37) (r1 : Int) (r2 : List ByteArray) (r3 : Int) (r4 : ByteArray) (r5 : List Int) (r6 r7 : Int) (r8 : ByteArray) (w : World)
  (hr1 : Kd.C Kd.string w A1 l.length l) (hc1 : l.length ≤ c1) (hr4 : Kd.C (Kd.int .u8) w A4 d.length d) (hc4 : d.length ≤ c4) (hT : Kd.C k37 w A0 t.length t) (hT1 : t.length ≤ c0) (h : impl_SyncMirror.f k a l b c d e f z t = some (r1, r2, r3, r4, r5, r6, r7, r8)) :
  Calls Tryz.prog 26 #[.agg #[.int .i64 a, .slice A1 l.length c1, .int .i64 b, .string c, .slice A4 d.length c4, .int .i64 e, .int .i64 f, .string z], .slice A0 t.length c0] w fun e w' => ∃ v1_ v4_ : Value, e = .returned (.agg #[.int .i64 r1, v1_, .int .i64 r3, .string r4, v4_, .int .i64 r6, .int .i64 r7, .string r8]) ∧ Kd.R Kd.string 9 w' w.heap.size (fun _ => True) v1_ r2 ∧ Kd.R (Kd.int .u8) 5 w' w.heap.size (fun _ => True) v4_ r5 ∧ Below w.heap.size w w' := by
 have hu43 := Tryz.underlying43
 have HR1 := Aside0.mk hr1
 have HC1 := Aside0.mk hc1
 have HR4 := Aside0.mk hr4
 have HC4 := Aside0.mk hc4
 have HT := Aside0.mk hT
 have HT1 := Aside0.mk hT1
 have HB := Aside0.mk (Below.refl w.heap.size w)
 unfold impl_SyncMirror.f at h
 replace h := bi_ h; obtain ⟨⟨q1, q2, q3, q4, q5, q6, q7, q8⟩, AC, h⟩ := h
 dsimp only at h
 replace h := bi_ h; obtain ⟨q, AO, h⟩ := h
 clear hr1 hc1 hr4 hc4 hT hT1
 cases q with
 | false =>
  rw [if_neg (by simp)] at h
  replace h := so8_ h; obtain ⟨rfl, rfl, rfl, rfl, rfl, rfl, rfl, rfl⟩ := h
  go_enter Tryz.func26, Tryz.ntmps26
  go_wp2_with (first | ((with_reducible refine gd_ 2 ?_); refine bx_ 2 43 #[.int .i64 a, .slice A1 l.length c1, .int .i64 b, .string c, .slice A4 d.length c4, .int .i64 e, .int .i64 f, .string z] ?_; intro gB2 hg wbB2 hbox hb; have B2 := Aside0.mk hbox; have GB2 := gg_ hg HB; replace HB := ss_ HB hb; clear hb hbox hg) | ((with_reducible refine gd_ 4 ?_); refine bx_ 4 43 #[.int .i64 0, .slice none 0 0, .int .i64 0, .string (⟨#[]⟩ : ByteArray), .slice none 0 0, .int .i64 0, .int .i64 0, .string (⟨#[]⟩ : ByteArray)] ?_; intro gB4 hg wbB4 hbox hb; have B4 := Aside0.mk hbox; have GB4 := gg_ hg HB; have N24 := nla_ hg B2; replace HB := ss_ HB hb; replace B2 := kl_ B2 hb; clear hb hbox hg; have hB2_0 := bc0_ B2.out; have fB2_0 := blk_frozen B2.out 0; have hB2_1 := bc1_ B2.out; have fB2_1 := blk_frozen B2.out 1; have hB2_2 := bc2_ B2.out; have fB2_2 := blk_frozen B2.out 2; have hB2_3 := bc3_ B2.out; have fB2_3 := blk_frozen B2.out 3; have hB2_4 := bc4_ B2.out; have fB2_4 := blk_frozen B2.out 4; have hB2_5 := bc5_ B2.out; have fB2_5 := blk_frozen B2.out 5; have hB2_6 := bc6_ B2.out; have fB2_6 := blk_frozen B2.out 6; have hB2_7 := bc7_ B2.out; have fB2_7 := blk_frozen B2.out 7) | ((with_reducible refine gq_ 54 7 ?_); refine gc_ 7 Tryz.func54 (impl_copyMirror.calls a _ _ l b c _ _ d e f z q1 q2 q3 q4 q5 q6 q7 q8 _ (cb_ HR1 HB) HC1.out (cb_ HR4 HB) HC4.out AC.out) ?_; rintro e w4 ⟨v0, v3, rfl, ho, hp, hb⟩; refine ⟨_, rfl, ?_⟩; have HO := Aside0.mk (Kd.R_lower ho (sz_ HB)); have HP := Aside0.mk (Kd.R_lower hp (sz_ HB)); replace HB := ss_ HB hb; replace B2 := kl_ B2 hb; replace B4 := kl_ B4 hb; clear hb ho hp hB2_0 fB2_0 hB2_1 fB2_1 hB2_2 fB2_2 hB2_3 fB2_3 hB2_4 fB2_4 hB2_5 fB2_5 hB2_6 fB2_6 hB2_7 fB2_7; obtain ⟨Ao, co, eo⟩ := Kd.R_slice HO.out; subst eo; obtain ⟨Ap, cp, ep⟩ := Kd.R_slice HP.out; subst ep) | ((with_reducible refine gd_ 5 ?_); refine bx_ 5 43 #[.int .i64 0, .slice none 0 0, .int .i64 0, .string (⟨#[]⟩ : ByteArray), .slice none 0 0, .int .i64 0, .int .i64 0, .string (⟨#[]⟩ : ByteArray)] ?_; intro gB5 hg wbB5 hbox hb; have B5 := Aside0.mk hbox; have GB5 := gg_ hg HB; have N25 := nla_ hg B2; have N45 := nla_ hg B4; replace HB := ss_ HB hb; replace B2 := kl_ B2 hb; replace B4 := kl_ B4 hb; replace HO := rb_ HO hb; replace HP := rb_ HP hb; clear hb hbox hg; have hB2_0 := bc0_ B2.out; have fB2_0 := blk_frozen B2.out 0; have hB2_1 := bc1_ B2.out; have fB2_1 := blk_frozen B2.out 1; have hB2_2 := bc2_ B2.out; have fB2_2 := blk_frozen B2.out 2; have hB2_3 := bc3_ B2.out; have fB2_3 := blk_frozen B2.out 3; have hB2_4 := bc4_ B2.out; have fB2_4 := blk_frozen B2.out 4; have hB2_5 := bc5_ B2.out; have fB2_5 := blk_frozen B2.out 5; have hB2_6 := bc6_ B2.out; have fB2_6 := blk_frozen B2.out 6; have hB2_7 := bc7_ B2.out; have fB2_7 := blk_frozen B2.out 7; have hB5_0 := bc0_ B5.out; have fB5_0 := blk_frozen B5.out 0; have hB5_1 := bc1_ B5.out; have fB5_1 := blk_frozen B5.out 1; have hB5_2 := bc2_ B5.out; have fB5_2 := blk_frozen B5.out 2; have hB5_3 := bc3_ B5.out; have fB5_3 := blk_frozen B5.out 3; have hB5_4 := bc4_ B5.out; have fB5_4 := blk_frozen B5.out 4; have hB5_5 := bc5_ B5.out; have fB5_5 := blk_frozen B5.out 5; have hB5_6 := bc6_ B5.out; have fB5_6 := blk_frozen B5.out 6; have hB5_7 := bc7_ B5.out; have fB5_7 := blk_frozen B5.out 7; have hn := N25.out; have hn2 := N25.out.symm) | ((with_reducible refine gq_ 27 10 ?_); refine gc_ 10 Tryz.func27 (impl_MirrorOk.calls k a _ _ l b c _ _ d e f z _ _ t false _ (Kd.C_below HR1.out (bw_ HB)) HC1.out (Kd.C_below HR4.out (bw_ HB)) HC4.out (Kd.C_below HT.out (bw_ HB)) HT1.out AO.out) ?_; rintro e w6 ⟨rfl, hb⟩; refine ⟨_, rfl, ?_⟩; replace HO := rbf_ HO B5 hb; replace HP := rbf_ HP B5 hb; replace HB := ss_ HB hb; replace B4 := kp_ B4 hb; replace B5 := kp_ B5 hb; clear hb hB2_0 fB2_0 hB2_1 fB2_1 hB2_2 fB2_2 hB2_3 fB2_3 hB2_4 fB2_4 hB2_5 fB2_5 hB2_6 fB2_6 hB2_7 fB2_7 hB5_0 fB5_0 hB5_1 fB5_1 hB5_2 fB5_2 hB5_3 fB5_3 hB5_4 fB5_4 hB5_5 fB5_5 hB5_6 fB5_6 hB5_7 fB5_7 hn hn2 N25; have hB5_0 := bc0_ B5.out; have fB5_0 := blk_frozen B5.out 0; have hB5_1 := bc1_ B5.out; have fB5_1 := blk_frozen B5.out 1; have hB5_2 := bc2_ B5.out; have fB5_2 := blk_frozen B5.out 2; have hB5_3 := bc3_ B5.out; have fB5_3 := blk_frozen B5.out 3; have hB5_4 := bc4_ B5.out; have fB5_4 := blk_frozen B5.out 4; have hB5_5 := bc5_ B5.out; have fB5_5 := blk_frozen B5.out 5; have hB5_6 := bc6_ B5.out; have fB5_6 := blk_frozen B5.out 6; have hB5_7 := bc7_ B5.out; have fB5_7 := blk_frozen B5.out 7; have hB4_0 := bc0_ B4.out; have fB4_0 := blk_frozen B4.out 0; have hB4_1 := bc1_ B4.out; have fB4_1 := blk_frozen B4.out 1; have hB4_2 := bc2_ B4.out; have fB4_2 := blk_frozen B4.out 2; have hB4_3 := bc3_ B4.out; have fB4_3 := blk_frozen B4.out 3; have hB4_4 := bc4_ B4.out; have fB4_4 := blk_frozen B4.out 4; have hB4_5 := bc5_ B4.out; have fB4_5 := blk_frozen B4.out 5; have hB4_6 := bc6_ B4.out; have fB4_6 := blk_frozen B4.out 6; have hB4_7 := bc7_ B4.out; have fB4_7 := blk_frozen B4.out 7; have hn := N45.out; have hn2 := N45.out.symm))
  refine bodyPost_ret (results_cell_row rfl _ _ gB4 43 #[.int .i64 q1, .slice Ao q2.length co, .int .i64 q3, .string q4, .slice Ap q5.length cp, .int .i64 q6, .int .i64 q7, .string q8] (0, 0) _ rfl (by exact kq_ B4) Tryz.underlying43 rfl (by kernel_rfl)) rfl ?_
  exact ⟨_, _, rfl, kf_ HO B4, kf_ HP B4, bw_ HB⟩
 | true =>
  rw [if_pos rfl] at h
  replace h := so8_ h; obtain ⟨rfl, rfl, rfl, rfl, rfl, rfl, rfl, rfl⟩ := h
  go_enter Tryz.func26, Tryz.ntmps26
  go_wp2_with (first | ((with_reducible refine gd_ 2 ?_); refine bx_ 2 43 #[.int .i64 a, .slice A1 l.length c1, .int .i64 b, .string c, .slice A4 d.length c4, .int .i64 e, .int .i64 f, .string z] ?_; intro gB2 hg wbB2 hbox hb; have B2 := Aside0.mk hbox; have GB2 := gg_ hg HB; replace HB := ss_ HB hb; clear hb hbox hg) | ((with_reducible refine gd_ 4 ?_); refine bx_ 4 43 #[.int .i64 0, .slice none 0 0, .int .i64 0, .string (⟨#[]⟩ : ByteArray), .slice none 0 0, .int .i64 0, .int .i64 0, .string (⟨#[]⟩ : ByteArray)] ?_; intro gB4 hg wbB4 hbox hb; have B4 := Aside0.mk hbox; have GB4 := gg_ hg HB; have N24 := nla_ hg B2; replace HB := ss_ HB hb; replace B2 := kl_ B2 hb; clear hb hbox hg; have hB2_0 := bc0_ B2.out; have fB2_0 := blk_frozen B2.out 0; have hB2_1 := bc1_ B2.out; have fB2_1 := blk_frozen B2.out 1; have hB2_2 := bc2_ B2.out; have fB2_2 := blk_frozen B2.out 2; have hB2_3 := bc3_ B2.out; have fB2_3 := blk_frozen B2.out 3; have hB2_4 := bc4_ B2.out; have fB2_4 := blk_frozen B2.out 4; have hB2_5 := bc5_ B2.out; have fB2_5 := blk_frozen B2.out 5; have hB2_6 := bc6_ B2.out; have fB2_6 := blk_frozen B2.out 6; have hB2_7 := bc7_ B2.out; have fB2_7 := blk_frozen B2.out 7) | ((with_reducible refine gq_ 54 7 ?_); refine gc_ 7 Tryz.func54 (impl_copyMirror.calls a _ _ l b c _ _ d e f z q1 q2 q3 q4 q5 q6 q7 q8 _ (cb_ HR1 HB) HC1.out (cb_ HR4 HB) HC4.out AC.out) ?_; rintro e w4 ⟨v0, v3, rfl, ho, hp, hb⟩; refine ⟨_, rfl, ?_⟩; have HO := Aside0.mk (Kd.R_lower ho (sz_ HB)); have HP := Aside0.mk (Kd.R_lower hp (sz_ HB)); replace HB := ss_ HB hb; replace B2 := kl_ B2 hb; replace B4 := kl_ B4 hb; clear hb ho hp hB2_0 fB2_0 hB2_1 fB2_1 hB2_2 fB2_2 hB2_3 fB2_3 hB2_4 fB2_4 hB2_5 fB2_5 hB2_6 fB2_6 hB2_7 fB2_7; obtain ⟨Ao, co, eo⟩ := Kd.R_slice HO.out; subst eo; obtain ⟨Ap, cp, ep⟩ := Kd.R_slice HP.out; subst ep) | ((with_reducible refine gd_ 5 ?_); refine bx_ 5 43 #[.int .i64 0, .slice none 0 0, .int .i64 0, .string (⟨#[]⟩ : ByteArray), .slice none 0 0, .int .i64 0, .int .i64 0, .string (⟨#[]⟩ : ByteArray)] ?_; intro gB5 hg wbB5 hbox hb; have B5 := Aside0.mk hbox; have GB5 := gg_ hg HB; have N25 := nla_ hg B2; have N45 := nla_ hg B4; replace HB := ss_ HB hb; replace B2 := kl_ B2 hb; replace B4 := kl_ B4 hb; replace HO := rb_ HO hb; replace HP := rb_ HP hb; clear hb hbox hg; have hB2_0 := bc0_ B2.out; have fB2_0 := blk_frozen B2.out 0; have hB2_1 := bc1_ B2.out; have fB2_1 := blk_frozen B2.out 1; have hB2_2 := bc2_ B2.out; have fB2_2 := blk_frozen B2.out 2; have hB2_3 := bc3_ B2.out; have fB2_3 := blk_frozen B2.out 3; have hB2_4 := bc4_ B2.out; have fB2_4 := blk_frozen B2.out 4; have hB2_5 := bc5_ B2.out; have fB2_5 := blk_frozen B2.out 5; have hB2_6 := bc6_ B2.out; have fB2_6 := blk_frozen B2.out 6; have hB2_7 := bc7_ B2.out; have fB2_7 := blk_frozen B2.out 7; have hB5_0 := bc0_ B5.out; have fB5_0 := blk_frozen B5.out 0; have hB5_1 := bc1_ B5.out; have fB5_1 := blk_frozen B5.out 1; have hB5_2 := bc2_ B5.out; have fB5_2 := blk_frozen B5.out 2; have hB5_3 := bc3_ B5.out; have fB5_3 := blk_frozen B5.out 3; have hB5_4 := bc4_ B5.out; have fB5_4 := blk_frozen B5.out 4; have hB5_5 := bc5_ B5.out; have fB5_5 := blk_frozen B5.out 5; have hB5_6 := bc6_ B5.out; have fB5_6 := blk_frozen B5.out 6; have hB5_7 := bc7_ B5.out; have fB5_7 := blk_frozen B5.out 7; have hn := N25.out; have hn2 := N25.out.symm) | ((with_reducible refine gq_ 27 10 ?_); refine gc_ 10 Tryz.func27 (impl_MirrorOk.calls k a _ _ l b c _ _ d e f z _ _ t true _ (Kd.C_below HR1.out (bw_ HB)) HC1.out (Kd.C_below HR4.out (bw_ HB)) HC4.out (Kd.C_below HT.out (bw_ HB)) HT1.out AO.out) ?_; rintro e w6 ⟨rfl, hb⟩; refine ⟨_, rfl, ?_⟩; replace HO := rbf_ HO B5 hb; replace HP := rbf_ HP B5 hb; replace HB := ss_ HB hb; replace B4 := kp_ B4 hb; replace B5 := kp_ B5 hb; clear hb hB2_0 fB2_0 hB2_1 fB2_1 hB2_2 fB2_2 hB2_3 fB2_3 hB2_4 fB2_4 hB2_5 fB2_5 hB2_6 fB2_6 hB2_7 fB2_7 hB5_0 fB5_0 hB5_1 fB5_1 hB5_2 fB5_2 hB5_3 fB5_3 hB5_4 fB5_4 hB5_5 fB5_5 hB5_6 fB5_6 hB5_7 fB5_7 hn hn2 N25; have hB5_0 := bc0_ B5.out; have fB5_0 := blk_frozen B5.out 0; have hB5_1 := bc1_ B5.out; have fB5_1 := blk_frozen B5.out 1; have hB5_2 := bc2_ B5.out; have fB5_2 := blk_frozen B5.out 2; have hB5_3 := bc3_ B5.out; have fB5_3 := blk_frozen B5.out 3; have hB5_4 := bc4_ B5.out; have fB5_4 := blk_frozen B5.out 4; have hB5_5 := bc5_ B5.out; have fB5_5 := blk_frozen B5.out 5; have hB5_6 := bc6_ B5.out; have fB5_6 := blk_frozen B5.out 6; have hB5_7 := bc7_ B5.out; have fB5_7 := blk_frozen B5.out 7; have hB4_0 := bc0_ B4.out; have fB4_0 := blk_frozen B4.out 0; have hB4_1 := bc1_ B4.out; have fB4_1 := blk_frozen B4.out 1; have hB4_2 := bc2_ B4.out; have fB4_2 := blk_frozen B4.out 2; have hB4_3 := bc3_ B4.out; have fB4_3 := blk_frozen B4.out 3; have hB4_4 := bc4_ B4.out; have fB4_4 := blk_frozen B4.out 4; have hB4_5 := bc5_ B4.out; have fB4_5 := blk_frozen B4.out 5; have hB4_6 := bc6_ B4.out; have fB4_6 := blk_frozen B4.out 6; have hB4_7 := bc7_ B4.out; have fB4_7 := blk_frozen B4.out 7; have hn := N45.out; have hn2 := N45.out.symm) | ((with_reducible refine gq_ 58 11 ?_); refine gc_ 11 Tryz.func58 (sync_calls gB5 _ _ _ _ _ _ _ _ _ _ _ _ _ B5.out) ?_; rintro e w7 ⟨rfl, hw⟩; refine ⟨_, rfl, ?_⟩; replace HO := Aside0.mk (show Kd.R Kd.string 9 w7 w.heap.size _ _ _ from by rw [hw]; exact kf_ HO B5); replace HP := Aside0.mk (show Kd.R (Kd.int .u8) 5 w7 w.heap.size _ _ _ from by rw [hw]; exact kf_ HP B5); replace HB := Aside0.mk (show Below w.heap.size w w7 from by rw [hw]; exact bw_ HB); replace B4 := Aside0.mk (show w7.heap[gB4]? = some (.cells #[.int .i64 0, .slice none 0 0, .int .i64 0, .string (⟨#[]⟩ : ByteArray), .slice none 0 0, .int .i64 0, .int .i64 0, .string (⟨#[]⟩ : ByteArray)] 43 (0, 0)) from by rw [hw]; exact kq_ B4); replace B5 := Aside0.mk (show w7.heap[gB5]? = some (.cells #[.int .i64 q1, .slice Ao q2.length co, .int .i64 q3, .string q4, .slice Ap q5.length cp, .int .i64 (q5.length : Int), .int .i64 q7, .string q8] 43 (0, 0)) from by rw [hw]; exact kq_ B5); clear hw hn hn2 hB4_0 fB4_0 hB4_1 fB4_1 hB4_2 fB4_2 hB4_3 fB4_3 hB4_4 fB4_4 hB4_5 fB4_5 hB4_6 fB4_6 hB4_7 fB4_7 hB5_0 fB5_0 hB5_1 fB5_1 hB5_2 fB5_2 hB5_3 fB5_3 hB5_4 fB5_4 hB5_5 fB5_5 hB5_6 fB5_6 hB5_7 fB5_7; have hB5_0 := bc0_ B5.out; have fB5_0 := blk_frozen B5.out 0; have hB5_1 := bc1_ B5.out; have fB5_1 := blk_frozen B5.out 1; have hB5_2 := bc2_ B5.out; have fB5_2 := blk_frozen B5.out 2; have hB5_3 := bc3_ B5.out; have fB5_3 := blk_frozen B5.out 3; have hB5_4 := bc4_ B5.out; have fB5_4 := blk_frozen B5.out 4; have hB5_5 := bc5_ B5.out; have fB5_5 := blk_frozen B5.out 5; have hB5_6 := bc6_ B5.out; have fB5_6 := blk_frozen B5.out 6; have hB5_7 := bc7_ B5.out; have fB5_7 := blk_frozen B5.out 7; have hB4_0 := bc0_ B4.out; have fB4_0 := blk_frozen B4.out 0; have hB4_1 := bc1_ B4.out; have fB4_1 := blk_frozen B4.out 1; have hB4_2 := bc2_ B4.out; have fB4_2 := blk_frozen B4.out 2; have hB4_3 := bc3_ B4.out; have fB4_3 := blk_frozen B4.out 3; have hB4_4 := bc4_ B4.out; have fB4_4 := blk_frozen B4.out 4; have hB4_5 := bc5_ B4.out; have fB4_5 := blk_frozen B4.out 5; have hB4_6 := bc6_ B4.out; have fB4_6 := blk_frozen B4.out 6; have hB4_7 := bc7_ B4.out; have fB4_7 := blk_frozen B4.out 7; have hn := N45.out; have hn2 := N45.out.symm))
  refine bodyPost_ret (results_cell_row rfl _ _ gB4 43 #[.int .i64 q1, .slice Ao q2.length co, .int .i64 q3, .string q4, .slice Ap q5.length cp, .int .i64 (q5.length : Int), .int .i64 q7, .string q8] (0, 0) _ rfl (by exact kq_ B4) Tryz.underlying43 rfl (by kernel_rfl)) rfl ?_
  exact ⟨_, _, rfl, kf_ HO B4, kf_ HP B4, bw_ HB⟩
end Go.Proofs.YtnlndmoecljicaaGreat.Q
end
section
namespace Go.Proofs.YtnlndmoecljicaaGreat.Q
open Go.RowKit Go.Proofs.YtnlndmoecljicaaGreatW.PrintWords Go.Proofs.YtnlndmoecljicaaGreatW.PrintLast Go.Proofs.YtnlndmoecljicaaGreatW.PrintMore
attribute [local go_sem] max2_int min2_int max_two min_two max_three min_three max_four min_four   -- for this text's walks alone
set_option linter.unusedVariables false
set_option linter.unusedSimpArgs false
def spec_l14Copy.f (a0_0 : Int) (l0_1 : List ByteArray) (a0_2 : Int) (a0_3 : ByteArray) (l0_4 : List Int) (a0_5 : Int) (a0_6 : Int) (a0_7 : ByteArray) : Option (Int × List ByteArray × Int × ByteArray × List Int × Int × Int × ByteArray) := (spec_l12Copy.f l0_1 a0_2 a0_3 l0_4 a0_5).bind fun bt603 => (some (a0_0, bt603.1, bt603.2.1, bt603.2.2.1, bt603.2.2.2.1, bt603.2.2.2.2, a0_6, a0_7))
def spec_l14Copy.T1 : Bool × List (List Nat × List Nat) := (true, [([], []), ([0], [0]), ([], []), ([2], [2]), ([3], [3]), ([], []), ([5], [5]), ([1, 4, 6], [1, 4, 6]), ([7, 4, 0, 1, 2, 3, 4, 5, 6, 7], [7])])
def spec_l14Copy.B1 : List Nat := [0, 1, 0, 4, 12, 0, 32, 127, 255]
theorem spec_l14Copy.tab1 : rtab .any (opsOf Tryz.f56 1) = spec_l14Copy.T1 := by kernel_rfl
theorem spec_l14Copy.bits1 : waitsOk spec_l14Copy.T1.2 spec_l14Copy.B1 = true := by kernel_rfl
set_option maxHeartbeats 8000000 in
set_option maxRecDepth 100000 in
theorem spec_l14Copy.calls (a0_0 : Int) (A0_1 : Option Addr) (c0_1 : Nat) (l0_1 : List ByteArray) (a0_2 : Int) (a0_3 : ByteArray) (A0_4 : Option Addr) (c0_4 : Nat) (l0_4 : List Int) (a0_5 : Int) (a0_6 : Int) (a0_7 : ByteArray) (r1 : Int) (r2 : List ByteArray) (r3 : Int) (r4 : ByteArray) (r5 : List Int) (r6 : Int) (r7 : Int) (r8 : ByteArray) (w : World) (hr0_1 : Kd.C Kd.string w A0_1 l0_1.length l0_1) (hc0_1 : l0_1.length ≤ c0_1) (hr0_4 : Kd.C (Kd.int .u8) w A0_4 l0_4.length l0_4) (hc0_4 : l0_4.length ≤ c0_4) (h : spec_l14Copy.f a0_0 l0_1 a0_2 a0_3 l0_4 a0_5 a0_6 a0_7 = some (r1, r2, r3, r4, r5, r6, r7, r8)) :
  Calls Tryz.prog 56 #[.agg #[.int .i64 a0_0, .slice A0_1 l0_1.length c0_1, .int .i64 a0_2, .string a0_3, .slice A0_4 l0_4.length c0_4, .int .i64 a0_5, .int .i64 a0_6, .string a0_7]] w fun e w' => ∃ v1_ v4_ : Value, e = .returned (.agg #[.int .i64 r1, v1_, .int .i64 r3, .string r4, v4_, .int .i64 r6, .int .i64 r7, .string r8]) ∧ Kd.R Kd.string 9 w' w.heap.size (fun _ => True) v1_ r2 ∧ Kd.R (Kd.int .u8) 5 w' w.heap.size (fun _ => True) v4_ r5 ∧ Below w.heap.size w w' := by
 have hu43 := Tryz.underlying43
 have hu41 := Tryz.underlying41
 have hu37 := Tryz.underlying37
 have HR0_1 := Aside0.mk hr0_1
 have HC0_1 := Aside0.mk hc0_1
 clear hr0_1 hc0_1
 have HR0_4 := Aside0.mk hr0_4
 have HC0_4 := Aside0.mk hc0_4
 clear hr0_4 hc0_4
 have HB := Aside0.mk (Below.refl w.heap.size w)
 have H : ((spec_l12Copy.f l0_1 a0_2 a0_3 l0_4 a0_5).bind fun bt603 => (some (a0_0, bt603.1, bt603.2.1, bt603.2.2.1, bt603.2.2.2.1, bt603.2.2.2.2, a0_6, a0_7))) = some (r1, r2, r3, r4, r5, r6, r7, r8) := h
 clear h
 replace H := bi_ H; obtain ⟨⟨t603, t606, t607, t608, t611⟩, A2, H⟩ := H
 dsimp only at H
 replace H := so8_ H; obtain ⟨rfl, rfl, rfl, rfl, rfl, rfl, rfl, rfl⟩ := H
 go_enter Tryz.func56, Tryz.ntmps56
 try go_wp2_with (first | ((with_reducible refine gd_ 1 ?_); refine bx_ 1 43 #[.int .i64 a0_0, .slice A0_1 l0_1.length c0_1, .int .i64 a0_2, .string a0_3, .slice A0_4 l0_4.length c0_4, .int .i64 a0_5, .int .i64 a0_6, .string a0_7] ?_; intro gb601 hg w3 hbox hb; have BK601 := Aside0.mk hbox; have GW601 := gg_ hg HB; have GE601 := GW601; replace HB := ss_ HB hb; clear hb hbox hg) | ((with_reducible refine gd_ 2 ?_); refine bx_ 2 43 #[.int .i64 0, .slice none 0 0, .int .i64 0, .string (⟨#[]⟩ : ByteArray), .slice none 0 0, .int .i64 0, .int .i64 0, .string (⟨#[]⟩ : ByteArray)] ?_; intro gb602 hg w4 hbox hb; have BK602 := Aside0.mk hbox; have GW602 := gg_ hg HB; have GE602 := GW602; replace HB := ss_ HB hb; have NB601_602 := nla_ hg BK601; have NB602_601 := nga_ hg BK601; replace BK601 := kl_ BK601 hb; clear hb hbox hg))
 replace BK601 := Aside0.mk (blk_drew BK601.out)
 replace BK602 := Aside0.mk (blk_drew BK602.out)
 replace HB := Aside0.mk (below_drew1 HB.out)
 refine start_ (n := 9) (S := fun w' => w'.cell? ⟨gb601, 0, none⟩ = some (.int .i64 a0_0) ∧ w'.cell? ⟨gb601, 1, none⟩ = some (.slice A0_1 l0_1.length c0_1) ∧ w'.cell? ⟨gb601, 2, none⟩ = some (.int .i64 a0_2) ∧ w'.cell? ⟨gb601, 3, none⟩ = some (.string a0_3) ∧ w'.cell? ⟨gb601, 4, none⟩ = some (.slice A0_4 l0_4.length c0_4) ∧ w'.cell? ⟨gb601, 5, none⟩ = some (.int .i64 a0_5) ∧ w'.cell? ⟨gb601, 6, none⟩ = some (.int .i64 a0_6) ∧ w'.cell? ⟨gb601, 7, none⟩ = some (.string a0_7)) (ds := []) (lz_ 9 0) (by kernel_rfl) rfl rfl ⟨bc0_ BK601.out, bc1_ BK601.out, bc2_ BK601.out, bc3_ BK601.out, bc4_ BK601.out, bc5_ BK601.out, bc6_ BK601.out, bc7_ BK601.out⟩ (fun hHeld => ?_); refine with_tabW spec_l14Copy.tab1 spec_l14Copy.bits1 (fun HT_ HW_ => ?_)
 generalize w4.drew = w5 at BK601 BK602 HB hHeld ⊢
 refine pt_ 0 3 1 ?_
 refine pt_ 2 5 5 ?_
 refine pt_ 5 8 37 ?_
 refine tt_ 1 4 39 ?_
 refine tt_ 3 6 47 ?_
 refine tt_ 6 9 111 ?_
 refine one_ (i := 4) (N := some 7) (lz_ 9 127) rfl rfl (one_of HT_.out (by kernel_rfl)) (by decide) (fun K hK => ?_)
 refine gf_ Tryz.func93 (spec_l12Copy.calls _ _ l0_1 a0_2 a0_3 _ _ l0_4 a0_5 t603 t606 t607 t608 t611 _ (cb_ HR0_1 HB) HC0_1.out (cb_ HR0_4 HB) HC0_4.out A2.out) ?_
 rintro e w6 ⟨v604, v609, rfl, ho0, ho1, hb⟩
 refine ⟨_, rfl, ?_⟩
 have HO605 := Aside0.mk (Kd.R_lower ho0 (sz_ HB))
 have HO610 := Aside0.mk (Kd.R_lower ho1 (sz_ HB))
 replace BK601 := kl_ BK601 hb
 replace BK602 := kl_ BK602 hb
 replace HB := ss_ HB hb
 clear hb ho0 ho1
 obtain ⟨Ao7, co7, eo7⟩ := Kd.R_slice HO610.out
 (first | subst eo7 | (injection eo7 with f1_ f2_ f3_; have f4_ := f1_.symm; have f5_ := f3_.symm; clear f1_ f2_ f3_; subst f4_; subst f5_))
 obtain ⟨Ao8, co8, eo8⟩ := Kd.R_slice HO605.out
 (first | subst eo8 | (injection eo8 with f1_ f2_ f3_; have f4_ := f1_.symm; have f5_ := f3_.symm; clear f1_ f2_ f3_; subst f4_; subst f5_))
 refine hK.out _ _ ⟨bc0_ BK601.out, bc1_ BK601.out, bc2_ BK601.out, bc3_ BK601.out, bc4_ BK601.out, bc5_ BK601.out, bc6_ BK601.out, bc7_ BK601.out⟩ (fun hHeld => ?_)
 clear hK K
 refine no_ 7 ?_
 refine pt_ 7 10 255 ?_
 refine one_ (i := 8) (N := none) (lz_ 9 511) rfl rfl (one_of HT_.out (by kernel_rfl)) (by decide) (fun K hK => ?_)
 have hs9 := bc0_ BK602.out
 have hfs9 := blk_frozen BK602.out 0
 have hns9_0 := NB601_602.out
 have hms9_0 := NB602_601.out
 have hs10 := bc1_ BK602.out
 have hfs10 := blk_frozen BK602.out 1
 have hns10_0 := NB601_602.out
 have hms10_0 := NB602_601.out
 have hs11 := bc2_ BK602.out
 have hfs11 := blk_frozen BK602.out 2
 have hns11_0 := NB601_602.out
 have hms11_0 := NB602_601.out
 have hs12 := bc3_ BK602.out
 have hfs12 := blk_frozen BK602.out 3
 have hns12_0 := NB601_602.out
 have hms12_0 := NB602_601.out
 have hs13 := bc4_ BK602.out
 have hfs13 := blk_frozen BK602.out 4
 have hns13_0 := NB601_602.out
 have hms13_0 := NB602_601.out
 have hs14 := bc5_ BK602.out
 have hfs14 := blk_frozen BK602.out 5
 have hns14_0 := NB601_602.out
 have hms14_0 := NB602_601.out
 have hs15 := bc6_ BK602.out
 have hfs15 := blk_frozen BK602.out 6
 have hns15_0 := NB601_602.out
 have hms15_0 := NB602_601.out
 have hs16 := bc7_ BK602.out
 have hfs16 := blk_frozen BK602.out 7
 have hns16_0 := NB601_602.out
 have hms16_0 := NB602_601.out
 refine skip_ (w1 := ?_) (by rfl) rfl ?_ ?_
 rotate_left
 ·go_simp
  rfl
 refine hK.out _ _ ⟨((cell_far (p := ⟨gb602, _, none⟩) NB601_602.out _).trans (((cell_far (p := ⟨gb602, _, none⟩) NB601_602.out _).trans (((cell_far (p := ⟨gb602, _, none⟩) NB601_602.out _).trans (((cell_far (p := ⟨gb602, _, none⟩) NB601_602.out _).trans (((cell_far (p := ⟨gb602, _, none⟩) NB601_602.out _).trans (((cell_far (p := ⟨gb602, _, none⟩) NB601_602.out _).trans (((cell_far (p := ⟨gb602, _, none⟩) NB601_602.out _).trans (((cell_far (p := ⟨gb602, _, none⟩) NB601_602.out _).trans (hHeld.1)))))))))))))))), ((cell_far (p := ⟨gb602, _, none⟩) NB601_602.out _).trans (((cell_far (p := ⟨gb602, _, none⟩) NB601_602.out _).trans (((cell_far (p := ⟨gb602, _, none⟩) NB601_602.out _).trans (((cell_far (p := ⟨gb602, _, none⟩) NB601_602.out _).trans (((cell_far (p := ⟨gb602, _, none⟩) NB601_602.out _).trans (((cell_far (p := ⟨gb602, _, none⟩) NB601_602.out _).trans (((cell_far (p := ⟨gb602, _, none⟩) NB601_602.out _).trans (((cell_far (p := ⟨gb602, _, none⟩) NB601_602.out _).trans (hHeld.2.1)))))))))))))))), ((cell_far (p := ⟨gb602, _, none⟩) NB601_602.out _).trans (((cell_far (p := ⟨gb602, _, none⟩) NB601_602.out _).trans (((cell_far (p := ⟨gb602, _, none⟩) NB601_602.out _).trans (((cell_far (p := ⟨gb602, _, none⟩) NB601_602.out _).trans (((cell_far (p := ⟨gb602, _, none⟩) NB601_602.out _).trans (((cell_far (p := ⟨gb602, _, none⟩) NB601_602.out _).trans (((cell_far (p := ⟨gb602, _, none⟩) NB601_602.out _).trans (((cell_far (p := ⟨gb602, _, none⟩) NB601_602.out _).trans (hHeld.2.2.1)))))))))))))))), ((cell_far (p := ⟨gb602, _, none⟩) NB601_602.out _).trans (((cell_far (p := ⟨gb602, _, none⟩) NB601_602.out _).trans (((cell_far (p := ⟨gb602, _, none⟩) NB601_602.out _).trans (((cell_far (p := ⟨gb602, _, none⟩) NB601_602.out _).trans (((cell_far (p := ⟨gb602, _, none⟩) NB601_602.out _).trans (((cell_far (p := ⟨gb602, _, none⟩) NB601_602.out _).trans (((cell_far (p := ⟨gb602, _, none⟩) NB601_602.out _).trans (((cell_far (p := ⟨gb602, _, none⟩) NB601_602.out _).trans (hHeld.2.2.2.1)))))))))))))))), ((cell_far (p := ⟨gb602, _, none⟩) NB601_602.out _).trans (((cell_far (p := ⟨gb602, _, none⟩) NB601_602.out _).trans (((cell_far (p := ⟨gb602, _, none⟩) NB601_602.out _).trans (((cell_far (p := ⟨gb602, _, none⟩) NB601_602.out _).trans (((cell_far (p := ⟨gb602, _, none⟩) NB601_602.out _).trans (((cell_far (p := ⟨gb602, _, none⟩) NB601_602.out _).trans (((cell_far (p := ⟨gb602, _, none⟩) NB601_602.out _).trans (((cell_far (p := ⟨gb602, _, none⟩) NB601_602.out _).trans (hHeld.2.2.2.2.1)))))))))))))))), ((cell_far (p := ⟨gb602, _, none⟩) NB601_602.out _).trans (((cell_far (p := ⟨gb602, _, none⟩) NB601_602.out _).trans (((cell_far (p := ⟨gb602, _, none⟩) NB601_602.out _).trans (((cell_far (p := ⟨gb602, _, none⟩) NB601_602.out _).trans (((cell_far (p := ⟨gb602, _, none⟩) NB601_602.out _).trans (((cell_far (p := ⟨gb602, _, none⟩) NB601_602.out _).trans (((cell_far (p := ⟨gb602, _, none⟩) NB601_602.out _).trans (((cell_far (p := ⟨gb602, _, none⟩) NB601_602.out _).trans (hHeld.2.2.2.2.2.1)))))))))))))))), ((cell_far (p := ⟨gb602, _, none⟩) NB601_602.out _).trans (((cell_far (p := ⟨gb602, _, none⟩) NB601_602.out _).trans (((cell_far (p := ⟨gb602, _, none⟩) NB601_602.out _).trans (((cell_far (p := ⟨gb602, _, none⟩) NB601_602.out _).trans (((cell_far (p := ⟨gb602, _, none⟩) NB601_602.out _).trans (((cell_far (p := ⟨gb602, _, none⟩) NB601_602.out _).trans (((cell_far (p := ⟨gb602, _, none⟩) NB601_602.out _).trans (((cell_far (p := ⟨gb602, _, none⟩) NB601_602.out _).trans (hHeld.2.2.2.2.2.2.1)))))))))))))))), ((cell_far (p := ⟨gb602, _, none⟩) NB601_602.out _).trans (((cell_far (p := ⟨gb602, _, none⟩) NB601_602.out _).trans (((cell_far (p := ⟨gb602, _, none⟩) NB601_602.out _).trans (((cell_far (p := ⟨gb602, _, none⟩) NB601_602.out _).trans (((cell_far (p := ⟨gb602, _, none⟩) NB601_602.out _).trans (((cell_far (p := ⟨gb602, _, none⟩) NB601_602.out _).trans (((cell_far (p := ⟨gb602, _, none⟩) NB601_602.out _).trans (((cell_far (p := ⟨gb602, _, none⟩) NB601_602.out _).trans (hHeld.2.2.2.2.2.2.2))))))))))))))))⟩ (fun hHeld => ?_)
 clear hK K
 refine done_ (done_of HT_.out (by kernel_rfl)) ?_
 try go_wp2
 refine bodyPost_ret (results_cell_row rfl _ _ gb602 43 #[.int .i64 a0_0, .slice Ao8 t603.length co8, .int .i64 t606, .string t607, .slice Ao7 t608.length co7, .int .i64 t611, .int .i64 a0_6, .string a0_7] (0, 0) _ rfl (by exact kq_ BK602) Tryz.underlying43 rfl (by kernel_rfl)) rfl ?_
 exact ⟨_, _, e2_, by (with_reducible repeat (first | apply Kd.R_alloc | apply Kd.R_drewN | apply Kd.R_drew)); exact Kd.R_mono (Kd.R_far (p := ⟨gb602, 7, none⟩) (Kd.R_far (p := ⟨gb602, 6, none⟩) (Kd.R_far (p := ⟨gb602, 5, none⟩) (Kd.R_far (p := ⟨gb602, 4, none⟩) (Kd.R_far (p := ⟨gb602, 3, none⟩) (Kd.R_far (p := ⟨gb602, 2, none⟩) (Kd.R_far (p := ⟨gb602, 1, none⟩) (Kd.R_far (p := ⟨gb602, 0, none⟩) (Kd.R_types HO605.out BK602.out (by decide)) (fun _ hk => hk.2) (.int .i64 a0_0)) (fun _ hk => hk.2) (.slice Ao8 t603.length co8)) (fun _ hk => hk.2) (.int .i64 t606)) (fun _ hk => hk.2) (.string t607)) (fun _ hk => hk.2) (.slice Ao7 t608.length co7)) (fun _ hk => hk.2) (.int .i64 t611)) (fun _ hk => hk.2) (.int .i64 a0_6)) (fun _ hk => hk.2) (.string a0_7)) (fun _ hk => trivial), by (with_reducible repeat (first | apply Kd.R_alloc | apply Kd.R_drewN | apply Kd.R_drew)); exact Kd.R_mono (Kd.R_far (p := ⟨gb602, 7, none⟩) (Kd.R_far (p := ⟨gb602, 6, none⟩) (Kd.R_far (p := ⟨gb602, 5, none⟩) (Kd.R_far (p := ⟨gb602, 4, none⟩) (Kd.R_far (p := ⟨gb602, 3, none⟩) (Kd.R_far (p := ⟨gb602, 2, none⟩) (Kd.R_far (p := ⟨gb602, 1, none⟩) (Kd.R_far (p := ⟨gb602, 0, none⟩) (Kd.R_types HO610.out BK602.out (by decide)) (fun _ hk => hk.2) (.int .i64 a0_0)) (fun _ hk => hk.2) (.slice Ao8 t603.length co8)) (fun _ hk => hk.2) (.int .i64 t606)) (fun _ hk => hk.2) (.string t607)) (fun _ hk => hk.2) (.slice Ao7 t608.length co7)) (fun _ hk => hk.2) (.int .i64 t611)) (fun _ hk => hk.2) (.int .i64 a0_6)) (fun _ hk => hk.2) (.string a0_7)) (fun _ hk => trivial), bw_ HB⟩
def spec_SyncMirror.f (k : Nat) (a0_0 : Int) (l0_1 : List ByteArray) (a0_2 : Int) (a0_3 : ByteArray) (l0_4 : List Int) (a0_5 : Int) (a0_6 : Int) (a0_7 : ByteArray) (l1 : List (S37)) : Option (Int × List ByteArray × Int × ByteArray × List Int × Int × Int × ByteArray) := (spec_l14Copy.f a0_0 l0_1 a0_2 a0_3 l0_4 a0_5 a0_6 a0_7).bind fun bt603 => ((spec_MirrorOk.f k a0_0 l0_1 a0_2 a0_3 l0_4 a0_5 a0_6 a0_7 l1).bind fun t616 => (if t616 = true then (some (bt603.1, bt603.2.1, bt603.2.2.1, bt603.2.2.2.1, bt603.2.2.2.2.1, (bt603.2.2.2.2.1.length : Int), bt603.2.2.2.2.2.2.1, bt603.2.2.2.2.2.2.2)) else (some (bt603.1, bt603.2.1, bt603.2.2.1, bt603.2.2.2.1, bt603.2.2.2.2.1, bt603.2.2.2.2.2.1, bt603.2.2.2.2.2.2.1, bt603.2.2.2.2.2.2.2))))
set_option maxHeartbeats 8000000 in
set_option maxRecDepth 100000 in
theorem spec_SyncMirror.calls (k : Nat) (a0_0 : Int) (A0_1 : Option Addr) (c0_1 : Nat) (l0_1 : List ByteArray) (a0_2 : Int) (a0_3 : ByteArray) (A0_4 : Option Addr) (c0_4 : Nat) (l0_4 : List Int) (a0_5 : Int) (a0_6 : Int) (a0_7 : ByteArray) (A1 : Option Addr) (c1 : Nat) (l1 : List (S37)) (r1 : Int) (r2 : List ByteArray) (r3 : Int) (r4 : ByteArray) (r5 : List Int) (r6 : Int) (r7 : Int) (r8 : ByteArray) (w : World) (hr0_1 : Kd.C Kd.string w A0_1 l0_1.length l0_1) (hc0_1 : l0_1.length ≤ c0_1) (hr0_4 : Kd.C (Kd.int .u8) w A0_4 l0_4.length l0_4) (hc0_4 : l0_4.length ≤ c0_4) (hr1 : Kd.C k37 w A1 l1.length l1) (hc1 : l1.length ≤ c1) (h : spec_SyncMirror.f k a0_0 l0_1 a0_2 a0_3 l0_4 a0_5 a0_6 a0_7 l1 = some (r1, r2, r3, r4, r5, r6, r7, r8)) :
  Calls Tryz.prog 36 #[.agg #[.int .i64 a0_0, .slice A0_1 l0_1.length c0_1, .int .i64 a0_2, .string a0_3, .slice A0_4 l0_4.length c0_4, .int .i64 a0_5, .int .i64 a0_6, .string a0_7], .slice A1 l1.length c1] w fun e w' => ∃ v1_ v4_ : Value, e = .returned (.agg #[.int .i64 r1, v1_, .int .i64 r3, .string r4, v4_, .int .i64 r6, .int .i64 r7, .string r8]) ∧ Kd.R Kd.string 9 w' w.heap.size (fun _ => True) v1_ r2 ∧ Kd.R (Kd.int .u8) 5 w' w.heap.size (fun _ => True) v4_ r5 ∧ Below w.heap.size w w' := by
 have hu43 := Tryz.underlying43
 have HR0_1 := Aside0.mk hr0_1
 have HC0_1 := Aside0.mk hc0_1
 clear hr0_1 hc0_1
 have HR0_4 := Aside0.mk hr0_4
 have HC0_4 := Aside0.mk hc0_4
 clear hr0_4 hc0_4
 have HR1 := Aside0.mk hr1
 have HC1 := Aside0.mk hc1
 clear hr1 hc1
 have HB := Aside0.mk (Below.refl w.heap.size w)
 have H : ((spec_l14Copy.f a0_0 l0_1 a0_2 a0_3 l0_4 a0_5 a0_6 a0_7).bind fun bt603 => ((spec_MirrorOk.f k a0_0 l0_1 a0_2 a0_3 l0_4 a0_5 a0_6 a0_7 l1).bind fun t616 => (if t616 = true then (some (bt603.1, bt603.2.1, bt603.2.2.1, bt603.2.2.2.1, bt603.2.2.2.2.1, (bt603.2.2.2.2.1.length : Int), bt603.2.2.2.2.2.2.1, bt603.2.2.2.2.2.2.2)) else (some (bt603.1, bt603.2.1, bt603.2.2.1, bt603.2.2.2.1, bt603.2.2.2.2.1, bt603.2.2.2.2.2.1, bt603.2.2.2.2.2.2.1, bt603.2.2.2.2.2.2.2))))) = some (r1, r2, r3, r4, r5, r6, r7, r8) := h
 clear h
 replace H := bi_ H; obtain ⟨⟨t603, t604, t607, t608, t609, t612, t613, t614⟩, A3, H⟩ := H
 dsimp only at H
 replace H := bi_ H; obtain ⟨t616, A4, H⟩ := H
 replace H := itb_ H; obtain ⟨rfl, H⟩ | ⟨rfl, H⟩ := H
 ·replace H := so8_ H; obtain ⟨rfl, rfl, rfl, rfl, rfl, rfl, rfl, rfl⟩ := H
  go_enter Tryz.func36, Tryz.ntmps36
  go_wp2_with (first | ((with_reducible refine gd_ 2 ?_); refine bx_ 2 43 #[.int .i64 a0_0, .slice A0_1 l0_1.length c0_1, .int .i64 a0_2, .string a0_3, .slice A0_4 l0_4.length c0_4, .int .i64 a0_5, .int .i64 a0_6, .string a0_7] ?_; intro gb601 hg w6 hbox hb; have BK601 := Aside0.mk hbox; have GW601 := gg_ hg HB; have GE601 := GW601; replace HB := ss_ HB hb; clear hb hbox hg) | ((with_reducible refine gd_ 4 ?_); refine bx_ 4 43 #[.int .i64 0, .slice none 0 0, .int .i64 0, .string (⟨#[]⟩ : ByteArray), .slice none 0 0, .int .i64 0, .int .i64 0, .string (⟨#[]⟩ : ByteArray)] ?_; intro gb602 hg w7 hbox hb; have BK602 := Aside0.mk hbox; have GW602 := gg_ hg HB; have GE602 := GW602; replace HB := ss_ HB hb; have NB601_602 := nla_ hg BK601; have NB602_601 := nga_ hg BK601; replace BK601 := kl_ BK601 hb; clear hb hbox hg; have hnb8 := NB601_602.out; have hnc8 := NB602_601.out; have hcz9 := cz8_ BK601) | ((with_reducible refine gq_ 56 7 ?_); refine gc_ 7 Tryz.func56 (spec_l14Copy.calls a0_0 _ _ l0_1 a0_2 a0_3 _ _ l0_4 a0_5 a0_6 a0_7 t603 t604 t607 t608 t609 t612 t613 t614 _ (cb_ HR0_1 HB) HC0_1.out (cb_ HR0_4 HB) HC0_4.out A3.out) ?_; rintro e w10 ⟨v605, v610, rfl, ho0, ho1, hb⟩; refine ⟨_, rfl, ?_⟩; have HO606 := Aside0.mk (Kd.R_lower ho0 (sz_ HB)); have HO611 := Aside0.mk (Kd.R_lower ho1 (sz_ HB)); replace BK601 := kl_ BK601 hb; replace BK602 := kl_ BK602 hb; replace HB := ss_ HB hb; clear hb ho0 ho1) | ((with_reducible refine gd_ 5 ?_); refine bx_ 5 43 #[.int .i64 0, .slice none 0 0, .int .i64 0, .string (⟨#[]⟩ : ByteArray), .slice none 0 0, .int .i64 0, .int .i64 0, .string (⟨#[]⟩ : ByteArray)] ?_; intro gb615 hg w11 hbox hb; replace HO606 := rb_ HO606 hb; replace HO611 := rb_ HO611 hb; have BK615 := Aside0.mk hbox; have GW615 := gg_ hg HB; have GE615 := GW615; replace HB := ss_ HB hb; have NB601_615 := nla_ hg BK601; have NB615_601 := nga_ hg BK601; replace BK601 := kl_ BK601 hb; have NB602_615 := nla_ hg BK602; have NB615_602 := nga_ hg BK602; replace BK602 := kl_ BK602 hb; clear hb hbox hg; have hnb12 := NB615_601.out; have hnc12 := NB601_615.out; have hnb13 := NB615_602.out; have hnc13 := NB602_615.out; have hcz14 := cz8_ BK615; obtain ⟨Ao15, co15, eo15⟩ := Kd.R_slice HO606.out; subst eo15; obtain ⟨Ao16, co16, eo16⟩ := Kd.R_slice HO611.out; subst eo16; have hcz17 := cz8_ BK601) | ((with_reducible refine gq_ 39 10 ?_); refine gc_ 10 Tryz.func39 (spec_MirrorOk.calls k a0_0 _ _ l0_1 a0_2 a0_3 _ _ l0_4 a0_5 a0_6 a0_7 _ _ l1 true _ (Kd.C_below HR0_1.out (bw_ HB)) HC0_1.out (Kd.C_below HR0_4.out (bw_ HB)) HC0_4.out (Kd.C_below HR1.out (bw_ HB)) HC1.out A4.out) ?_; rintro e w18 ⟨rfl, hb⟩; refine ⟨_, rfl, ?_⟩; replace HO606 := rbf_ HO606 BK615 hb; replace HO611 := rbf_ HO611 BK615 hb; replace BK601 := kp_ BK601 hb; replace BK602 := kp_ BK602 hb; replace BK615 := kp_ BK615 hb; replace HB := ss_ HB hb; clear hb; have hcz19 := cz8_ BK615; have hcz20 := cz8_ BK602))
  refine bodyPost_ret (results_cell_row rfl _ _ gb602 43 #[.int .i64 t603, .slice Ao15 t604.length co15, .int .i64 t607, .string t608, .slice Ao16 t609.length co16, .int .i64 (t609.length : Int), .int .i64 t613, .string t614] (0, 0) _ rfl (by exact kq_ BK602) Tryz.underlying43 rfl (by kernel_rfl)) rfl ?_
  exact ⟨_, _, e2_, by (with_reducible repeat (first | apply Kd.R_alloc | apply Kd.R_drewN | apply Kd.R_drew)); exact Kd.R_mono (Kd.R_far (p := ⟨gb602, 7, none⟩) (Kd.R_far (p := ⟨gb602, 6, none⟩) (Kd.R_far (p := ⟨gb602, 5, none⟩) (Kd.R_far (p := ⟨gb602, 4, none⟩) (Kd.R_far (p := ⟨gb602, 3, none⟩) (Kd.R_far (p := ⟨gb602, 2, none⟩) (Kd.R_far (p := ⟨gb602, 1, none⟩) (Kd.R_far (p := ⟨gb602, 0, none⟩) (Kd.R_far (p := ⟨gb615, 5, none⟩) (Kd.R_types (Kd.R_types HO606.out BK615.out (by decide)) BK602.out (by decide)) (fun _ hk => hk.1.2) (.int .i64 (t609.length : Int))) (fun _ hk => hk.2) (.int .i64 t603)) (fun _ hk => hk.2) (.slice Ao15 t604.length co15)) (fun _ hk => hk.2) (.int .i64 t607)) (fun _ hk => hk.2) (.string t608)) (fun _ hk => hk.2) (.slice Ao16 t609.length co16)) (fun _ hk => hk.2) (.int .i64 (t609.length : Int))) (fun _ hk => hk.2) (.int .i64 t613)) (fun _ hk => hk.2) (.string t614)) (fun _ hk => trivial), by (with_reducible repeat (first | apply Kd.R_alloc | apply Kd.R_drewN | apply Kd.R_drew)); exact Kd.R_mono (Kd.R_far (p := ⟨gb602, 7, none⟩) (Kd.R_far (p := ⟨gb602, 6, none⟩) (Kd.R_far (p := ⟨gb602, 5, none⟩) (Kd.R_far (p := ⟨gb602, 4, none⟩) (Kd.R_far (p := ⟨gb602, 3, none⟩) (Kd.R_far (p := ⟨gb602, 2, none⟩) (Kd.R_far (p := ⟨gb602, 1, none⟩) (Kd.R_far (p := ⟨gb602, 0, none⟩) (Kd.R_far (p := ⟨gb615, 5, none⟩) (Kd.R_types (Kd.R_types HO611.out BK615.out (by decide)) BK602.out (by decide)) (fun _ hk => hk.1.2) (.int .i64 (t609.length : Int))) (fun _ hk => hk.2) (.int .i64 t603)) (fun _ hk => hk.2) (.slice Ao15 t604.length co15)) (fun _ hk => hk.2) (.int .i64 t607)) (fun _ hk => hk.2) (.string t608)) (fun _ hk => hk.2) (.slice Ao16 t609.length co16)) (fun _ hk => hk.2) (.int .i64 (t609.length : Int))) (fun _ hk => hk.2) (.int .i64 t613)) (fun _ hk => hk.2) (.string t614)) (fun _ hk => trivial), bw_ HB⟩
 ·replace H := so8_ H; obtain ⟨rfl, rfl, rfl, rfl, rfl, rfl, rfl, rfl⟩ := H
  go_enter Tryz.func36, Tryz.ntmps36
  go_wp2_with (first | ((with_reducible refine gd_ 2 ?_); refine bx_ 2 43 #[.int .i64 a0_0, .slice A0_1 l0_1.length c0_1, .int .i64 a0_2, .string a0_3, .slice A0_4 l0_4.length c0_4, .int .i64 a0_5, .int .i64 a0_6, .string a0_7] ?_; intro gb601 hg w21 hbox hb; have BK601 := Aside0.mk hbox; have GW601 := gg_ hg HB; have GE601 := GW601; replace HB := ss_ HB hb; clear hb hbox hg) | ((with_reducible refine gd_ 4 ?_); refine bx_ 4 43 #[.int .i64 0, .slice none 0 0, .int .i64 0, .string (⟨#[]⟩ : ByteArray), .slice none 0 0, .int .i64 0, .int .i64 0, .string (⟨#[]⟩ : ByteArray)] ?_; intro gb602 hg w22 hbox hb; have BK602 := Aside0.mk hbox; have GW602 := gg_ hg HB; have GE602 := GW602; replace HB := ss_ HB hb; have NB601_602 := nla_ hg BK601; have NB602_601 := nga_ hg BK601; replace BK601 := kl_ BK601 hb; clear hb hbox hg; have hnb23 := NB601_602.out; have hnc23 := NB602_601.out; have hcz24 := cz8_ BK601) | ((with_reducible refine gq_ 56 7 ?_); refine gc_ 7 Tryz.func56 (spec_l14Copy.calls a0_0 _ _ l0_1 a0_2 a0_3 _ _ l0_4 a0_5 a0_6 a0_7 t603 t604 t607 t608 t609 t612 t613 t614 _ (cb_ HR0_1 HB) HC0_1.out (cb_ HR0_4 HB) HC0_4.out A3.out) ?_; rintro e w25 ⟨v605, v610, rfl, ho0, ho1, hb⟩; refine ⟨_, rfl, ?_⟩; have HO606 := Aside0.mk (Kd.R_lower ho0 (sz_ HB)); have HO611 := Aside0.mk (Kd.R_lower ho1 (sz_ HB)); replace BK601 := kl_ BK601 hb; replace BK602 := kl_ BK602 hb; replace HB := ss_ HB hb; clear hb ho0 ho1) | ((with_reducible refine gd_ 5 ?_); refine bx_ 5 43 #[.int .i64 0, .slice none 0 0, .int .i64 0, .string (⟨#[]⟩ : ByteArray), .slice none 0 0, .int .i64 0, .int .i64 0, .string (⟨#[]⟩ : ByteArray)] ?_; intro gb615 hg w26 hbox hb; replace HO606 := rb_ HO606 hb; replace HO611 := rb_ HO611 hb; have BK615 := Aside0.mk hbox; have GW615 := gg_ hg HB; have GE615 := GW615; replace HB := ss_ HB hb; have NB601_615 := nla_ hg BK601; have NB615_601 := nga_ hg BK601; replace BK601 := kl_ BK601 hb; have NB602_615 := nla_ hg BK602; have NB615_602 := nga_ hg BK602; replace BK602 := kl_ BK602 hb; clear hb hbox hg; have hnb27 := NB615_601.out; have hnc27 := NB601_615.out; have hnb28 := NB615_602.out; have hnc28 := NB602_615.out; have hcz29 := cz8_ BK615; obtain ⟨Ao30, co30, eo30⟩ := Kd.R_slice HO606.out; subst eo30; obtain ⟨Ao31, co31, eo31⟩ := Kd.R_slice HO611.out; subst eo31; have hcz32 := cz8_ BK601) | ((with_reducible refine gq_ 39 10 ?_); refine gc_ 10 Tryz.func39 (spec_MirrorOk.calls k a0_0 _ _ l0_1 a0_2 a0_3 _ _ l0_4 a0_5 a0_6 a0_7 _ _ l1 false _ (Kd.C_below HR0_1.out (bw_ HB)) HC0_1.out (Kd.C_below HR0_4.out (bw_ HB)) HC0_4.out (Kd.C_below HR1.out (bw_ HB)) HC1.out A4.out) ?_; rintro e w33 ⟨rfl, hb⟩; refine ⟨_, rfl, ?_⟩; replace HO606 := rbf_ HO606 BK615 hb; replace HO611 := rbf_ HO611 BK615 hb; replace BK601 := kp_ BK601 hb; replace BK602 := kp_ BK602 hb; replace BK615 := kp_ BK615 hb; replace HB := ss_ HB hb; clear hb; have hcz34 := cz8_ BK615; have hcz35 := cz8_ BK602))
  refine bodyPost_ret (results_cell_row rfl _ _ gb602 43 #[.int .i64 t603, .slice Ao30 t604.length co30, .int .i64 t607, .string t608, .slice Ao31 t609.length co31, .int .i64 t612, .int .i64 t613, .string t614] (0, 0) _ rfl (by exact kq_ BK602) Tryz.underlying43 rfl (by kernel_rfl)) rfl ?_
  exact ⟨_, _, e2_, by (with_reducible repeat (first | apply Kd.R_alloc | apply Kd.R_drewN | apply Kd.R_drew)); exact Kd.R_mono (Kd.R_far (p := ⟨gb602, 7, none⟩) (Kd.R_far (p := ⟨gb602, 6, none⟩) (Kd.R_far (p := ⟨gb602, 5, none⟩) (Kd.R_far (p := ⟨gb602, 4, none⟩) (Kd.R_far (p := ⟨gb602, 3, none⟩) (Kd.R_far (p := ⟨gb602, 2, none⟩) (Kd.R_far (p := ⟨gb602, 1, none⟩) (Kd.R_far (p := ⟨gb602, 0, none⟩) (Kd.R_types HO606.out BK602.out (by decide)) (fun _ hk => hk.2) (.int .i64 t603)) (fun _ hk => hk.2) (.slice Ao30 t604.length co30)) (fun _ hk => hk.2) (.int .i64 t607)) (fun _ hk => hk.2) (.string t608)) (fun _ hk => hk.2) (.slice Ao31 t609.length co31)) (fun _ hk => hk.2) (.int .i64 t612)) (fun _ hk => hk.2) (.int .i64 t613)) (fun _ hk => hk.2) (.string t614)) (fun _ hk => trivial), by (with_reducible repeat (first | apply Kd.R_alloc | apply Kd.R_drewN | apply Kd.R_drew)); exact Kd.R_mono (Kd.R_far (p := ⟨gb602, 7, none⟩) (Kd.R_far (p := ⟨gb602, 6, none⟩) (Kd.R_far (p := ⟨gb602, 5, none⟩) (Kd.R_far (p := ⟨gb602, 4, none⟩) (Kd.R_far (p := ⟨gb602, 3, none⟩) (Kd.R_far (p := ⟨gb602, 2, none⟩) (Kd.R_far (p := ⟨gb602, 1, none⟩) (Kd.R_far (p := ⟨gb602, 0, none⟩) (Kd.R_types HO611.out BK602.out (by decide)) (fun _ hk => hk.2) (.int .i64 t603)) (fun _ hk => hk.2) (.slice Ao30 t604.length co30)) (fun _ hk => hk.2) (.int .i64 t607)) (fun _ hk => hk.2) (.string t608)) (fun _ hk => hk.2) (.slice Ao31 t609.length co31)) (fun _ hk => hk.2) (.int .i64 t612)) (fun _ hk => hk.2) (.int .i64 t613)) (fun _ hk => hk.2) (.string t614)) (fun _ hk => trivial), bw_ HB⟩
end Go.Proofs.YtnlndmoecljicaaGreat.Q
end
section
/- A mirror all of whose bytes are sure: the program and the reference are one. Plain. -/
namespace Go.Proofs.YtnlndmoecljicaaGreat.Q
open Go.RowKit Go.Proofs.YtnlndmoecljicaaGreat.B Go.Proofs.YtnlndmoecljicaaGreatW.PrintWords
set_option linter.unusedVariables false
theorem impl_copyMirror_eq (i : Int) (l : List ByteArray) (n : Int) (s : ByteArray) (b : List Int) (u c : Int) (z : ByteArray) (hl : l.length < 8796093022208) (hb : b.length < 140737488355328) : impl_copyMirror.f i l n s b u c z = some (i, l, n, s, b, u, c, z) := by
 unfold impl_copyMirror.f
 rw [impl_copyStore_eq l n s b u hl hb]
 rfl
theorem spec_l14Copy_eq (i : Int) (l : List ByteArray) (n : Int) (s : ByteArray) (b : List Int) (u c : Int) (z : ByteArray) (hl : l.length < 8796093022208) (hb : b.length < 140737488355328) : spec_l14Copy.f i l n s b u c z = some (i, l, n, s, b, u, c, z) := by
 unfold spec_l14Copy.f
 rw [spec_l12Copy_eq l n s b u hl hb]
 rfl
theorem sync_both (i : Int) (l : List ByteArray) (n : Int) (s : ByteArray) (b : List Int) (u c : Int) (z : ByteArray) (t : List IHead) (hb : InB b) (hl : b.length ≤ 1048576) (hk : l.length ≤ 1048576) (hs : ∀ x ∈ l, x.size ≤ bigB) (ht : t.length ≤ 9223372036854775807) :
  ∃ v, Ev (fun k => spec_SyncMirror.f k i l n s b u c z t) (i, l, n, s, b, v, c, z) ∧ Ev (fun k => impl_SyncMirror.f k i l n s b u c z t) (i, l, n, s, b, v, c, z) := by
 obtain ⟨r, h1, h2⟩ := mirrorOk_both i l n s b u c z t hb hl hs ht
 have k1 := impl_copyMirror_eq i l n s b u c z (by omega) (by omega)
 have k2 := spec_l14Copy_eq i l n s b u c z (by omega) (by omega)
 unfold spec_SyncMirror.f impl_SyncMirror.f
 cases r with
 | true => exact ⟨(b.length : Int), Ev.bind (Ev.const k2) (Ev.bind h1 (Ev.pos rfl (Ev.now _))), Ev.bind (Ev.const k1) (Ev.bind h2 (Ev.pos rfl (Ev.now _)))⟩
 | false => exact ⟨u, Ev.bind (Ev.const k2) (Ev.bind h1 (Ev.neg (by simp) (Ev.now _))), Ev.bind (Ev.const k1) (Ev.bind h2 (Ev.neg (by simp) (Ev.now _)))⟩
end Go.Proofs.YtnlndmoecljicaaGreat.Q
end
