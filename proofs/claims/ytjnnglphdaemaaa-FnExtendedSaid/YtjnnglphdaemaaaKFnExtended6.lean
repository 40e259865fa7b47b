-- Joined and shortened by a program of this session (wip/tools/shakecopy.py): the words of the print, texts of pp.sh and of mine.
import Derived.Test.YtjnnglphdaemaaaKFnExtended5
import Derived.Lib.AppendStr
import Derived.Lib.SliceRun
section
/- A drawn log with texts to come behind it: small. Plain. -/
namespace Go.Proofs.Ytjnnglphdaemaaa.Q
open Go.RowKit Go.Proofs.Ytjnnglphdaemaaa.B Go.Proofs.YtjnnglphdaemaaaW.PrintWords Go.Proofs.YtjnnglphdaemaaaW.PrintMore
set_option linter.unusedVariables false
set_option linter.unusedSimpArgs false
theorem exb {α β : Type} {f : Nat → Option α} {g : Nat → α → Option β} {a : α} {B : β → Prop} (h : Ev f a) (k : ∃ r, Ev (fun k => g k a) r ∧ B r) : ∃ r, Ev (fun k => (f k).bind (fun x => g k x)) r ∧ B r := by
 obtain ⟨r, e, b⟩ := k
 exact ⟨r, Ev.bind h e, b⟩
theorem exp_ {β : Type} {c : Prop} [Decidable c] {f g : Nat → Option β} {B : β → Prop} (h : c) (k : ∃ r, Ev f r ∧ B r) : ∃ r, Ev (fun k => if c then f k else g k) r ∧ B r := by
 obtain ⟨r, e, b⟩ := k
 exact ⟨r, Ev.pos h e, b⟩
theorem exn_ {β : Type} {c : Prop} [Decidable c] {f g : Nat → Option β} {B : β → Prop} (h : ¬ c) (k : ∃ r, Ev g r ∧ B r) : ∃ r, Ev (fun k => if c then f k else g k) r ∧ B r := by
 obtain ⟨r, e, b⟩ := k
 exact ⟨r, Ev.neg h e, b⟩
def DrawnB (r : List ByteArray × Int × ByteArray × List IHead × Int × ByteArray × List ByteArray) : Prop := r.1.length ≤ 20 ∧ (∀ y ∈ r.1, y.size ≤ bigB) ∧ r.2.2.2.1.length ≤ 2000 ∧ r.2.2.2.2.2.2.length ≤ 20 ∧ ∀ y ∈ r.2.2.2.2.2.2, y.size ≤ bigB
theorem once_end {s : List Int} {i : Int} (h : Int) (hd : Drawer s i) (l : List ByteArray) (n : Int) (q : ByteArray) (t : List IHead) (a : Int) (z : ByteArray) (x : List ByteArray) (h1 : l.length ≤ 20) (h2 : ∀ y ∈ l, y.size ≤ bigB) (h3 : t.length ≤ 1900) (h4 : x.length ≤ 20) (h5 : ∀ y ∈ x, y.size ≤ bigB) :
  ∃ r, Ev (fun _ : Nat => (spec_l1Once.f s i h 3).bind fun b => if b.1 = true then some (l, n, q, t, a, z, x) else (if t.length < 5864062014805 then some (l, n, q, t ++ [(⟨a, z⟩ : IHead)], a, z, x) else none)) r ∧ DrawnB r := by
 obtain ⟨b, i1, h1', e1, d1⟩ := l1Once_ok h 3 hd (by decide) (by decide)
 refine exb (Ev.const e1) ?_
 cases b with
 | true => exact exp_ rfl ⟨_, Ev.now _, h1, h2, by simp only; omega, h4, h5⟩
 | false => exact exn_ (by simp) (exp_ (by omega) ⟨_, Ev.now _, h1, h2, by simp only [List.length_append, List.length_singleton]; omega, h4, h5⟩)
theorem set_sizes {l : List ByteArray} {n : Nat} {b : ByteArray} (h : ∀ y ∈ l, y.size ≤ bigB) (hb : b.size ≤ bigB) : ∀ y ∈ l.set n b, y.size ≤ bigB := fun y hy => by
 rcases List.mem_or_eq_of_mem_set hy with hy | hy
 ·exact h y hy
 ·rw [hy]
  exact hb
theorem drawExtend_ev (l0 : List Int) (hl : l0.length ≤ 1048576) : ∃ r, Ev (fun k => spec_DrawExtend.f k l0) r ∧ DrawnB r := by
 obtain ⟨h, hN⟩ := l1New_ev l0 hl
 obtain ⟨a, i1, h1, e1, d1, ha, hx⟩ := l6List_ev h (Drawer.new hl)
 have hbent : ((⟨#[98, 101, 110, 116]⟩ : ByteArray)).size ≤ bigB := by decide
 have hx2 : ∀ x ∈ a ++ [(⟨#[113]⟩ : ByteArray)], x.size ≤ bigB := fun x hm => by
  rcases List.mem_append.1 hm with hm | hm
  ·have := hx x hm
   unfold bigB
   omega
  ·rw [List.mem_singleton.1 hm]
   decide
 have hal : (a ++ [(⟨#[113]⟩ : ByteArray)]).length = a.length + 1 := by simp
 unfold spec_DrawExtend.f
 refine exb hN (exb e1 (exp_ (by simp only; omega) (exb (Ev.now _) ?_)))
 simp only
 generalize a ++ [(⟨#[113]⟩ : ByteArray)] = all at *
 obtain ⟨n, i2, h2, e2, n0, n1, d2⟩ := l1Below_ok h1 (all.length : Int) d1 (by omega) (by omega)
 obtain ⟨n, rfl⟩ := Int.eq_ofNat_of_zero_le n0
 obtain ⟨T, i3, h3, e3, d3, hT, _⟩ := l10Table_ev h2 d2 all (by omega) hx2
 have hTl : (T ++ [lastHead all]).length ≤ 100 := by
  rw [List.length_append, List.length_singleton]
  omega
 have ht1 : (all.take n).length ≤ 20 := by
  rw [List.length_take]
  omega
 have ht2 : ∀ y ∈ all.take n, y.size ≤ bigB := fun y hy => hx2 y (List.mem_of_mem_take hy)
 have hLog : Ev (fun k => spec_l11Log.f k ([] ++ all.take n)) (all.take n, (headOf (all.take n)).1, (headOf (all.take n)).2) := by
  unfold spec_l11Log.f
  exact Ev.bind (spec_HeadOf_ev (all.take n) ht2) (Ev.now _)
 generalize (headOf (all.take n)).1 = N1 at hLog
 generalize (headOf (all.take n)).2 = Z1 at hLog
 refine exb (Ev.const e2) (exb (Ev.now _) (exp_ (by simp only; omega) (exp_ (by simp only; omega) (exb (Ev.now _) (exp_ ?_ (exb hLog (exb e3 ?_)))))))
 ·simp only [List.length_nil, List.length_take, Int.toNat_natCast]
  omega
 simp only
 have hnl : n < all.length := by omega
 have w1 : wrap64 ((all.length : Int) - (n : Int)) = ((all.length - n : Nat) : Int) := by
  rw [w64 (by omega) (by omega)]
  omega
 rw [w1]
 clear w1
 obtain ⟨m, i4, h4, e4, m0, m1, d4⟩ := l1Below_ok h3 ((all.length - n : Nat) : Int) d3 (by omega) (by omega)
 obtain ⟨m, rfl⟩ := Int.eq_ofNat_of_zero_le m0
 refine exb (Ev.const e4) ?_
 simp only
 have hm : n + 1 + m ≤ all.length := by omega
 have w2 : wrap64 (wrap64 ((n : Int) + 1) + (m : Int)) = ((n + 1 + m : Nat) : Int) := by
  rw [w64 (x := (n : Int) + 1) (by omega) (by omega), w64 (by omega) (by omega)]
  omega
 rw [w2]
 clear w2
 generalize hM : n + 1 + m = M at *
 have hHead := spec_HeadOf_ev (all.take M) (fun y hy => hx2 y (List.mem_of_mem_take hy))
 generalize headOf (all.take M) = H at hHead
 obtain ⟨H1, H2⟩ := H
 have hc1 : ([] ++ (all.take M).drop n).length = M - n := by
  rw [List.nil_append, List.length_drop, List.length_take]
  omega
 have hc2 : ∀ y ∈ [] ++ (all.take M).drop n, y.size ≤ bigB := fun y hy => hx2 y (List.mem_of_mem_take (List.mem_of_mem_drop (by rw [List.nil_append] at hy; exact hy)))
 refine exp_ (by omega) (exp_ (by omega) (exb hHead (exb (Ev.now _) (exp_ (by omega) (exb (Ev.now _) (exp_ ?_ (exb (Ev.now _) ?_)))))))
 ·simp only [List.length_nil, List.length_drop, List.length_take, Int.toNat_natCast]
  omega
 simp only [Int.toNat_natCast]
 generalize [] ++ (all.take M).drop n = X at *
 obtain ⟨c, i5, h5, e5, c0, c1, d5⟩ := l1Below_ok h4 8 d4 (by decide) (by decide)
 refine exb (Ev.const e5) ?_
 simp only
 have hXl : X.length ≤ 20 := by omega
 have hX1 : 1 ≤ X.length := by omega
 clear hHead hLog e1 e2 e3 e4 e5 hN hc1 hM hm
 by_cases k0 : c = 0
 ·obtain ⟨L, N, R, i6, h6, e6, d6, hL, hLs⟩ := l11Any_ev h5 d5
  exact exp_ k0 (exb e6 (once_end h6 d6 L N R _ H1 H2 X (by omega) hLs (by omega) hXl hc2))
 refine exn_ k0 ?_
 by_cases k1 : c = 1
 ·exact exp_ k1 (exp_ (by omega) (exb (Ev.now _) (once_end h5 d5 _ N1 Z1 _ H1 H2 _ ht1 ht2 (by omega) (by rw [List.length_set]; exact hXl) (set_sizes hc2 hbent))))
 refine exn_ k1 ?_
 by_cases k2 : c = 2
 ·obtain ⟨A, i6, h6, e6, d6, hA, hA2⟩ := l10Any_ev h5 d5
  have hA3 : 0 < A.length := List.length_pos_iff.mpr hA
  exact exp_ k2 (exb e6 (exp_ (by simp only; omega) (once_end h6 d6 _ N1 Z1 _ _ _ X ht1 ht2 (by omega) hXl hc2)))
 refine exn_ k2 ?_
 by_cases k3 : c = 3
 ·exact exp_ k3 (exb (Ev.now _) (once_end h5 d5 _ N1 Z1 _ N1 Z1 _ ht1 ht2 (by omega) (by simp) (by simp)))
 refine exn_ k3 ?_
 by_cases k4 : c = 4
 ·obtain ⟨A, i6, h6, e6, d6, hA, hA2⟩ := l10Any_ev h5 d5
  exact exp_ k4 (exb e6 (once_end h6 d6 _ N1 Z1 A H1 H2 X ht1 ht2 (by omega) hXl hc2))
 refine exn_ k4 ?_
 by_cases k5 : c = 5
 ·have w3 : wrap64 ((X.length : Int) - 1) = ((X.length - 1 : Nat) : Int) := by
   rw [w64 (by omega) (by omega)]
   omega
  rw [w3]
  clear w3
  exact exp_ k5 (exp_ (by omega) (exb (Ev.now _) (exp_ (by omega) (exp_ (by omega) (exb (Ev.now _) (once_end h5 d5 _ N1 Z1 _ H1 H2 _ ht1 ht2 (by rw [List.length_append, List.length_singleton]; omega) (by rw [List.length_set]; exact hXl) (set_sizes hc2 hbent)))))))
 ·exact exn_ k5 (once_end h5 d5 _ N1 Z1 _ H1 H2 X ht1 ht2 (by omega) hXl hc2)
end Go.Proofs.Ytjnnglphdaemaaa.Q
end

section
-- Written by a program of this session (wip/tools/pp.sh) over the print of the kit.
namespace Go.Proofs.Ytjnnglphdaemaaa.Q
open Go.RowKit Go.Proofs.YtjnnglphdaemaaaW.PrintWords Go.Proofs.YtjnnglphdaemaaaW.PrintLast Go.Proofs.YtjnnglphdaemaaaW.PrintMore
attribute [local go_sem] max2_int min2_int max_two min_two max_three min_three max_four min_four   -- for this text's walks alone
set_option linter.unusedVariables false
set_option linter.unusedSimpArgs false
def impl_HeadOf.f (k : Nat) (l0 : List ByteArray) : Option (Int × ByteArray) := if (l0.length : Int) > 200 then (some (0, (⟨#[]⟩ : ByteArray))) else ((impl_rootOf.f k l0).bind fun t602 => (some ((l0.length : Int), t602)))
set_option maxHeartbeats 8000000 in
set_option maxRecDepth 100000 in
theorem impl_HeadOf.calls (k : Nat) (A0 : Option Addr) (c0 : Nat) (l0 : List ByteArray) (r1 : Int) (r2 : ByteArray) (w : World) (hr0 : Kd.C Kd.string w A0 l0.length l0) (hc0 : l0.length ≤ c0) (h : impl_HeadOf.f k l0 = some (r1, r2)) :
  Calls Try.prog 12 #[.slice A0 l0.length c0] w fun e w' => e = .returned (.agg #[.int .i64 r1, .string r2]) ∧ Below w.heap.size w w' := by
 have hu28 := Try.underlying28
 have HR0 := Aside0.mk hr0
 have HC0 := Aside0.mk hc0
 clear hr0 hc0
 have HB := Aside0.mk (Below.refl w.heap.size w)
 have H : (if (l0.length : Int) > 200 then (some (0, (⟨#[]⟩ : ByteArray))) else ((impl_rootOf.f k l0).bind fun t602 => (some ((l0.length : Int), t602)))) = some (r1, r2) := h
 clear h
 replace H := it_ H; obtain ⟨c2, H⟩ | ⟨c2, H⟩ := H
 ·have c2b0 : decide (200 < (l0.length : Int)) = true := decide_eq_true c2
  have c2b1 : decide (200 < l0.length) = true := decide_eq_true (by omega)
  clear c2
  replace H := so2_ H; obtain ⟨rfl, rfl⟩ := H
  go_enter Try.func12, Try.ntmps12
  go_wp2_with (first | ((with_reducible refine gd_ 2 ?_); refine bx_ 2 28 #[.int .i64 0, .string (⟨#[]⟩ : ByteArray)] ?_; intro gb601 hg w3 hbox hb; have BK601 := Aside0.mk hbox; have GW601 := gg_ hg HB; have GE601 := GW601; replace HB := ss_ HB hb; clear hb hbox hg; have hz4 := cz2_ BK601))
  refine bodyPost_ret (results_cell_row rfl _ _ gb601 28 #[.int .i64 0, .string (⟨#[]⟩ : ByteArray)] (0, 0) _ rfl (by exact kq_ BK601) Try.underlying28 rfl (by kernel_rfl)) rfl ?_
  exact ⟨e2_, bw_ HB⟩
 ·have c2b0 : decide (200 < (l0.length : Int)) = false := decide_eq_false c2
  have c2b1 : decide (200 < l0.length) = false := decide_eq_false (by omega)
  clear c2
  replace H := bi_ H; obtain ⟨t602, A5, H⟩ := H
  replace H := so2_ H; obtain ⟨rfl, rfl⟩ := H
  go_enter Try.func12, Try.ntmps12
  go_wp2_with (first | ((with_reducible refine gd_ 2 ?_); refine bx_ 2 28 #[.int .i64 0, .string (⟨#[]⟩ : ByteArray)] ?_; intro gb601 hg w6 hbox hb; have BK601 := Aside0.mk hbox; have GW601 := gg_ hg HB; have GE601 := GW601; replace HB := ss_ HB hb; clear hb hbox hg) | ((with_reducible refine gq_ 62 10 ?_); refine gc_ 10 Try.func62 (impl_rootOf.calls k _ _ l0 t602 _ (cb_ HR0 HB) HC0.out A5.out) ?_; rintro e w7 ⟨rfl, hb⟩; refine ⟨_, rfl, ?_⟩; replace BK601 := kl_ BK601 hb; replace HB := ss_ HB hb; clear hb; have hz8 := cz2_ BK601))
  refine bodyPost_ret (results_cell_row rfl _ _ gb601 28 #[.int .i64 (l0.length : Int), .string t602] (0, 0) _ rfl (by exact kq_ BK601) Try.underlying28 rfl (by kernel_rfl)) rfl ?_
  exact ⟨e2_, bw_ HB⟩
end Go.Proofs.Ytjnnglphdaemaaa.Q
end

section
/- The program's head of a list of texts. Plain. -/
namespace Go.Proofs.Ytjnnglphdaemaaa.Q
open Go.RowKit Go.Proofs.Ytjnnglphdaemaaa.B Go.Proofs.YtjnnglphdaemaaaW.PrintWords Go.Proofs.YtjnnglphdaemaaaW.PrintMore
set_option linter.unusedVariables false
theorem impl_HeadOf_ev (l : List ByteArray) (hs : ∀ x ∈ l, x.size ≤ bigB) : Ev (fun k => impl_HeadOf.f k l) (headOf l) := by
 unfold impl_HeadOf.f
 by_cases h : l.length ≤ 200
 ·rw [headOf_few h]
  exact Ev.neg (by omega) (Ev.bind (rooted_impl l.length l (Nat.le_refl _) (by omega) hs) (Ev.now _))
 ·rw [headOf_many h]
  exact Ev.pos (by omega) (Ev.now _)
end Go.Proofs.Ytjnnglphdaemaaa.Q
end

section
-- Written by a program of this session (wip/tools/pp.sh) over the print of the kit.
namespace Go.Proofs.Ytjnnglphdaemaaa.Q
open Go.RowKit Go.Proofs.YtjnnglphdaemaaaW.PrintWords Go.Proofs.YtjnnglphdaemaaaW.PrintLast Go.Proofs.YtjnnglphdaemaaaW.PrintMore
attribute [local go_sem] max2_int min2_int max_two min_two max_three min_three max_four min_four   -- for this text's walks alone
set_option linter.unusedVariables false
set_option linter.unusedSimpArgs false
theorem eqA28 (d : Nat) (w : World) (x0 y0 : Int) (x1 y1 : ByteArray) :
  (Op.equalIn (d + 2) 28 (.agg #[.int .i64 x0, .string x1]) (.agg #[.int .i64 y0, .string y1])).run Try.prog w = .ok (x0 == y0 && (x1.toList == y1.toList)) w := by
 refine eqA_of Try.underlying28 (by kernel_rfl) ?_
 refine eqf_cons (by rfl) (by go_simp; rfl) (by go_simp; rfl) (by go_simp) ?_
 exact eqf_last (by rfl) (by go_simp; rfl) (by go_simp; rfl) (by go_simp)
end Go.Proofs.Ytjnnglphdaemaaa.Q
end

section
-- Written by a program of this session (wip/tools/pp.sh) over the print of the kit.
namespace Go.Proofs.Ytjnnglphdaemaaa.Q
open Go.RowKit Go.Proofs.YtjnnglphdaemaaaW.PrintWords Go.Proofs.YtjnnglphdaemaaaW.PrintLast Go.Proofs.YtjnnglphdaemaaaW.PrintMore
attribute [local go_sem] max2_int min2_int max_two min_two max_three min_three max_four min_four   -- for this text's walks alone
set_option linter.unusedVariables false
set_option linter.unusedSimpArgs false
attribute [local go_sem high] eqA28
def impl_LogOk.f (k : Nat) (l0_0 : List ByteArray) (a0_1 : Int) (a0_2 : ByteArray) : Option (Bool) := if (l0_0.length : Int) ≤ 200 then ((impl_HeadOf.f k l0_0).bind fun bt602 => (some (a0_1 == bt602.1 && (a0_2.toList == bt602.2.toList)))) else (some false)
def impl_LogOk.T1 : Bool × List (List Nat × List Nat) := (true, [([], []), ([0], [0]), ([1], [1]), ([2], [2]), ([3], [3]), ([4], [4]), ([5, 4], [4, 5]), ([4], [4]), ([7, 4], [4, 7]), ([8, 4, 4], [4, 8]), ([6, 9, 4], [4, 6, 9]), ([4, 10], [4, 10]), ([11, 9, 0, 1, 2, 3, 4, 5, 6, 7, 8, 9, 10, 11], [11])])
def impl_LogOk.B1 : List Nat := [0, 1, 3, 7, 15, 31, 63, 31, 159, 415, 1023, 2047, 4095]
theorem impl_LogOk.tab1 : rtab .any (opsOf Try.f17 1) = impl_LogOk.T1 := by kernel_rfl
theorem impl_LogOk.bits1 : waitsOk impl_LogOk.T1.2 impl_LogOk.B1 = true := by kernel_rfl
set_option maxHeartbeats 8000000 in
set_option maxRecDepth 100000 in
theorem impl_LogOk.calls (k : Nat) (A0_0 : Option Addr) (c0_0 : Nat) (l0_0 : List ByteArray) (a0_1 : Int) (a0_2 : ByteArray) (r : Bool) (w : World) (hr0_0 : Kd.C Kd.string w A0_0 l0_0.length l0_0) (hc0_0 : l0_0.length ≤ c0_0) (h : impl_LogOk.f k l0_0 a0_1 a0_2 = some r) :
  Calls Try.prog 17 #[.agg #[.slice A0_0 l0_0.length c0_0, .int .i64 a0_1, .string a0_2]] w fun e w' => e = .returned (.bool r) ∧ Below w.heap.size w w' := by
 have hu31 := Try.underlying31
 have hu28 := Try.underlying28
 have HR0_0 := Aside0.mk hr0_0
 have HC0_0 := Aside0.mk hc0_0
 clear hr0_0 hc0_0
 have HB := Aside0.mk (Below.refl w.heap.size w)
 have H : (if (l0_0.length : Int) ≤ 200 then ((impl_HeadOf.f k l0_0).bind fun bt602 => (some (a0_1 == bt602.1 && (a0_2.toList == bt602.2.toList)))) else (some false)) = some r := h
 clear h
 replace H := it_ H; obtain ⟨c2, H⟩ | ⟨c2, H⟩ := H
 ·have c2b0 := decide_eq_true c2
  have c2b1 : decide (l0_0.length ≤ 200) = true := decide_eq_true (by omega)
  clear c2
  replace H := bi_ H; obtain ⟨⟨t602, t603⟩, A3, H⟩ := H
  dsimp only at H
  obtain rfl := Option.some.inj H
  go_enter Try.func17, Try.ntmps17
  try go_wp2_with (first | ((with_reducible refine gd_ 1 ?_); refine bx_ 1 31 #[.slice A0_0 l0_0.length c0_0, .int .i64 a0_1, .string a0_2] ?_; intro gb601 hg w4 hbox hb; have BK601 := Aside0.mk hbox; have GW601 := gg_ hg HB; have GE601 := GW601; replace HB := ss_ HB hb; clear hb hbox hg))
  replace BK601 := Aside0.mk (blk_drew BK601.out)
  replace HB := Aside0.mk (below_drew1 HB.out)
  refine start_ (n := 13) (S := fun w' => w'.cell? ⟨gb601, 0, none⟩ = some (.slice A0_0 l0_0.length c0_0) ∧ w'.cell? ⟨gb601, 1, none⟩ = some (.int .i64 a0_1) ∧ w'.cell? ⟨gb601, 2, none⟩ = some (.string a0_2)) (ds := []) (lz_ 13 0) (by kernel_rfl) rfl rfl ⟨bc0_ BK601.out, bc1_ BK601.out, bc2_ BK601.out⟩ (fun hHeld => ?_); refine with_tabW impl_LogOk.tab1 impl_LogOk.bits1 (fun HT_ HW_ => ?_)
  generalize w4.drew = w5 at BK601 HB hHeld ⊢
  refine pt_ 0 3 1 ?_
  refine tt_ 1 4 3 ?_
  refine pt_ 2 5 7 ?_
  refine pt_ 3 6 15 ?_
  refine pt_ 4 7 31 ?_
  refine pt_ 5 8 63 ?_
  refine pt_ 7 10 191 ?_
  refine tt_ 6 9 255 ?_
  refine tt_ 8 11 511 ?_
  refine one_ (i := 9) (N := some 12) (lz_ 13 1023) rfl rfl (one_of HT_.out (by kernel_rfl)) (by decide) (fun K hK => ?_)
  refine gf_ Try.func12 (impl_HeadOf.calls k _ _ l0_0 t602 t603 _ (cb_ HR0_0 HB) HC0_0.out A3.out) ?_
  rintro e w6 ⟨rfl, hb⟩
  refine ⟨_, rfl, ?_⟩
  replace BK601 := kl_ BK601 hb
  replace HB := ss_ HB hb
  clear hb
  refine hK.out _ _ ⟨bc0_ BK601.out, bc1_ BK601.out, bc2_ BK601.out⟩ (fun hHeld => ?_)
  clear hK K
  refine no_ 12 ?_
  refine pt_ 10 13 2047 ?_
  refine pt_ 11 14 4095 ?_
  refine pt_ 12 2 8191 ?_
  refine done_ (done_of HT_.out (by kernel_rfl)) ?_
  try go_wp2
  go_ret
  exact ⟨e2_, bw_ HB⟩
 ·have c2b0 := decide_eq_false c2
  have c2b1 : decide (l0_0.length ≤ 200) = false := decide_eq_false (by omega)
  clear c2
  obtain rfl := Option.some.inj H
  go_enter Try.func17, Try.ntmps17
  try go_wp2_with (first | ((with_reducible refine gd_ 1 ?_); refine bx_ 1 31 #[.slice A0_0 l0_0.length c0_0, .int .i64 a0_1, .string a0_2] ?_; intro gb601 hg w7 hbox hb; have BK601 := Aside0.mk hbox; have GW601 := gg_ hg HB; have GE601 := GW601; replace HB := ss_ HB hb; clear hb hbox hg))
  replace BK601 := Aside0.mk (blk_drew BK601.out)
  replace HB := Aside0.mk (below_drew1 HB.out)
  refine start_ (n := 13) (S := fun w' => w'.cell? ⟨gb601, 0, none⟩ = some (.slice A0_0 l0_0.length c0_0) ∧ w'.cell? ⟨gb601, 1, none⟩ = some (.int .i64 a0_1) ∧ w'.cell? ⟨gb601, 2, none⟩ = some (.string a0_2)) (ds := []) (lz_ 13 0) (by kernel_rfl) rfl rfl ⟨bc0_ BK601.out, bc1_ BK601.out, bc2_ BK601.out⟩ (fun hHeld => ?_); refine with_tabW impl_LogOk.tab1 impl_LogOk.bits1 (fun HT_ HW_ => ?_)
  generalize w7.drew = w8 at BK601 HB hHeld ⊢
  refine pt_ 0 3 1 ?_
  refine tt_ 1 4 3 ?_
  refine pt_ 2 5 7 ?_
  refine pt_ 3 6 15 ?_
  refine pt_ 4 7 31 ?_
  refine ut_ 5 8 63 ?_
  refine ut_ 6 9 127 ?_
  refine ut_ 7 10 255 ?_
  refine ut_ 8 11 511 ?_
  refine ut_ 9 12 1023 ?_
  refine ut_ 10 13 2047 ?_
  refine pt_ 11 14 4095 ?_
  refine pt_ 12 2 8191 ?_
  refine done_ (done_of HT_.out (by kernel_rfl)) ?_
  try go_wp2
  go_ret
  exact ⟨e2_, bw_ HB⟩
end Go.Proofs.Ytjnnglphdaemaaa.Q
end

section
-- Written by a program of this session (wip/tools/pp.sh) over the print of the kit.
namespace Go.Proofs.Ytjnnglphdaemaaa.Q
open Go.RowKit Go.Proofs.YtjnnglphdaemaaaW.PrintWords Go.Proofs.YtjnnglphdaemaaaW.PrintLast Go.Proofs.YtjnnglphdaemaaaW.PrintMore
attribute [local go_sem] max2_int min2_int max_two min_two max_three min_three max_four min_four   -- for this text's walks alone
set_option linter.unusedVariables false
set_option linter.unusedSimpArgs false
attribute [local go_sem high] eqA28
def spec_LogOk.f (k : Nat) (l0_0 : List ByteArray) (a0_1 : Int) (a0_2 : ByteArray) : Option (Bool) := if (l0_0.length : Int) ≤ 200 then ((spec_HeadOf.f k l0_0).bind fun bt602 => (some (a0_1 == bt602.1 && (a0_2.toList == bt602.2.toList)))) else (some false)
def spec_LogOk.T1 : Bool × List (List Nat × List Nat) := (true, [([], []), ([0], [0]), ([1], [1]), ([2], [2]), ([3], [3]), ([4], [4]), ([5, 4], [4, 5]), ([4], [4]), ([7, 4], [4, 7]), ([8, 4, 4], [4, 8]), ([6, 9, 4], [4, 6, 9]), ([4, 10], [4, 10]), ([11, 9, 0, 1, 2, 3, 4, 5, 6, 7, 8, 9, 10, 11], [11])])
def spec_LogOk.B1 : List Nat := [0, 1, 3, 7, 15, 31, 63, 31, 159, 415, 1023, 2047, 4095]
theorem spec_LogOk.tab1 : rtab .any (opsOf Try.f77 1) = spec_LogOk.T1 := by kernel_rfl
theorem spec_LogOk.bits1 : waitsOk spec_LogOk.T1.2 spec_LogOk.B1 = true := by kernel_rfl
set_option maxHeartbeats 8000000 in
set_option maxRecDepth 100000 in
theorem spec_LogOk.calls (k : Nat) (A0_0 : Option Addr) (c0_0 : Nat) (l0_0 : List ByteArray) (a0_1 : Int) (a0_2 : ByteArray) (r : Bool) (w : World) (hr0_0 : Kd.C Kd.string w A0_0 l0_0.length l0_0) (hc0_0 : l0_0.length ≤ c0_0) (h : spec_LogOk.f k l0_0 a0_1 a0_2 = some r) :
  Calls Try.prog 77 #[.agg #[.slice A0_0 l0_0.length c0_0, .int .i64 a0_1, .string a0_2]] w fun e w' => e = .returned (.bool r) ∧ Below w.heap.size w w' := by
 have hu31 := Try.underlying31
 have hu28 := Try.underlying28
 have HR0_0 := Aside0.mk hr0_0
 have HC0_0 := Aside0.mk hc0_0
 clear hr0_0 hc0_0
 have HB := Aside0.mk (Below.refl w.heap.size w)
 have H : (if (l0_0.length : Int) ≤ 200 then ((spec_HeadOf.f k l0_0).bind fun bt602 => (some (a0_1 == bt602.1 && (a0_2.toList == bt602.2.toList)))) else (some false)) = some r := h
 clear h
 replace H := it_ H; obtain ⟨c2, H⟩ | ⟨c2, H⟩ := H
 ·have c2b0 := decide_eq_true c2
  have c2b1 : decide (l0_0.length ≤ 200) = true := decide_eq_true (by omega)
  clear c2
  replace H := bi_ H; obtain ⟨⟨t602, t603⟩, A3, H⟩ := H
  dsimp only at H
  obtain rfl := Option.some.inj H
  go_enter Try.func77, Try.ntmps77
  try go_wp2_with (first | ((with_reducible refine gd_ 1 ?_); refine bx_ 1 31 #[.slice A0_0 l0_0.length c0_0, .int .i64 a0_1, .string a0_2] ?_; intro gb601 hg w4 hbox hb; have BK601 := Aside0.mk hbox; have GW601 := gg_ hg HB; have GE601 := GW601; replace HB := ss_ HB hb; clear hb hbox hg))
  replace BK601 := Aside0.mk (blk_drew BK601.out)
  replace HB := Aside0.mk (below_drew1 HB.out)
  refine start_ (n := 13) (S := fun w' => w'.cell? ⟨gb601, 0, none⟩ = some (.slice A0_0 l0_0.length c0_0) ∧ w'.cell? ⟨gb601, 1, none⟩ = some (.int .i64 a0_1) ∧ w'.cell? ⟨gb601, 2, none⟩ = some (.string a0_2)) (ds := []) (lz_ 13 0) (by kernel_rfl) rfl rfl ⟨bc0_ BK601.out, bc1_ BK601.out, bc2_ BK601.out⟩ (fun hHeld => ?_); refine with_tabW spec_LogOk.tab1 spec_LogOk.bits1 (fun HT_ HW_ => ?_)
  generalize w4.drew = w5 at BK601 HB hHeld ⊢
  refine pt_ 0 3 1 ?_
  refine tt_ 1 4 3 ?_
  refine pt_ 2 5 7 ?_
  refine pt_ 3 6 15 ?_
  refine pt_ 4 7 31 ?_
  refine pt_ 5 8 63 ?_
  refine pt_ 7 10 191 ?_
  refine tt_ 6 9 255 ?_
  refine tt_ 8 11 511 ?_
  refine one_ (i := 9) (N := some 12) (lz_ 13 1023) rfl rfl (one_of HT_.out (by kernel_rfl)) (by decide) (fun K hK => ?_)
  refine gf_ Try.func72 (spec_HeadOf.calls k _ _ l0_0 t602 t603 _ (cb_ HR0_0 HB) HC0_0.out A3.out) ?_
  rintro e w6 ⟨rfl, hb⟩
  refine ⟨_, rfl, ?_⟩
  replace BK601 := kl_ BK601 hb
  replace HB := ss_ HB hb
  clear hb
  refine hK.out _ _ ⟨bc0_ BK601.out, bc1_ BK601.out, bc2_ BK601.out⟩ (fun hHeld => ?_)
  clear hK K
  refine no_ 12 ?_
  refine pt_ 10 13 2047 ?_
  refine pt_ 11 14 4095 ?_
  refine pt_ 12 2 8191 ?_
  refine done_ (done_of HT_.out (by kernel_rfl)) ?_
  try go_wp2
  go_ret
  exact ⟨e2_, bw_ HB⟩
 ·have c2b0 := decide_eq_false c2
  have c2b1 : decide (l0_0.length ≤ 200) = false := decide_eq_false (by omega)
  clear c2
  obtain rfl := Option.some.inj H
  go_enter Try.func77, Try.ntmps77
  try go_wp2_with (first | ((with_reducible refine gd_ 1 ?_); refine bx_ 1 31 #[.slice A0_0 l0_0.length c0_0, .int .i64 a0_1, .string a0_2] ?_; intro gb601 hg w7 hbox hb; have BK601 := Aside0.mk hbox; have GW601 := gg_ hg HB; have GE601 := GW601; replace HB := ss_ HB hb; clear hb hbox hg))
  replace BK601 := Aside0.mk (blk_drew BK601.out)
  replace HB := Aside0.mk (below_drew1 HB.out)
  refine start_ (n := 13) (S := fun w' => w'.cell? ⟨gb601, 0, none⟩ = some (.slice A0_0 l0_0.length c0_0) ∧ w'.cell? ⟨gb601, 1, none⟩ = some (.int .i64 a0_1) ∧ w'.cell? ⟨gb601, 2, none⟩ = some (.string a0_2)) (ds := []) (lz_ 13 0) (by kernel_rfl) rfl rfl ⟨bc0_ BK601.out, bc1_ BK601.out, bc2_ BK601.out⟩ (fun hHeld => ?_); refine with_tabW spec_LogOk.tab1 spec_LogOk.bits1 (fun HT_ HW_ => ?_)
  generalize w7.drew = w8 at BK601 HB hHeld ⊢
  refine pt_ 0 3 1 ?_
  refine tt_ 1 4 3 ?_
  refine pt_ 2 5 7 ?_
  refine pt_ 3 6 15 ?_
  refine pt_ 4 7 31 ?_
  refine ut_ 5 8 63 ?_
  refine ut_ 6 9 127 ?_
  refine ut_ 7 10 255 ?_
  refine ut_ 8 11 511 ?_
  refine ut_ 9 12 1023 ?_
  refine ut_ 10 13 2047 ?_
  refine pt_ 11 14 4095 ?_
  refine pt_ 12 2 8191 ?_
  refine done_ (done_of HT_.out (by kernel_rfl)) ?_
  try go_wp2
  go_ret
  exact ⟨e2_, bw_ HB⟩
end Go.Proofs.Ytjnnglphdaemaaa.Q
end

section
/- Whether a log is right: the program's and the reference's answers are one. Plain. -/
namespace Go.Proofs.Ytjnnglphdaemaaa.Q
open Go.RowKit Go.Proofs.Ytjnnglphdaemaaa.B Go.Proofs.YtjnnglphdaemaaaW.PrintWords Go.Proofs.YtjnnglphdaemaaaW.PrintMore
set_option linter.unusedVariables false
def logOk (l : List ByteArray) (n : Int) (s : ByteArray) : Bool := if (l.length : Int) ≤ 200 then (n == (headOf l).1 && (s.toList == (headOf l).2.toList)) else false
theorem spec_LogOk_ev (l : List ByteArray) (n : Int) (s : ByteArray) (hs : ∀ x ∈ l, x.size ≤ bigB) : Ev (fun k => spec_LogOk.f k l n s) (logOk l n s) := by
 unfold spec_LogOk.f logOk
 by_cases h : (l.length : Int) ≤ 200
 ·rw [if_pos h]
  exact Ev.pos h (Ev.bind (spec_HeadOf_ev l hs) (Ev.now _))
 ·rw [if_neg h]
  exact Ev.neg h (Ev.now _)
theorem impl_LogOk_ev (l : List ByteArray) (n : Int) (s : ByteArray) (hs : ∀ x ∈ l, x.size ≤ bigB) : Ev (fun k => impl_LogOk.f k l n s) (logOk l n s) := by
 unfold impl_LogOk.f logOk
 by_cases h : (l.length : Int) ≤ 200
 ·rw [if_pos h]
  exact Ev.pos h (Ev.bind (impl_HeadOf_ev l hs) (Ev.now _))
 ·rw [if_neg h]
  exact Ev.neg h (Ev.now _)
end Go.Proofs.Ytjnnglphdaemaaa.Q
end

section
-- Written by a program of this session (wip/tools/pp.sh) over the print of the kit.
namespace Go.Proofs.Ytjnnglphdaemaaa.Q
open Go.RowKit Go.Proofs.YtjnnglphdaemaaaW.PrintWords Go.Proofs.YtjnnglphdaemaaaW.PrintLast Go.Proofs.YtjnnglphdaemaaaW.PrintMore
attribute [local go_sem] max2_int min2_int max_two min_two max_three min_three max_four min_four   -- for this text's walks alone
set_option linter.unusedVariables false
set_option linter.unusedSimpArgs false
end Go.Proofs.Ytjnnglphdaemaaa.Q
end

section
-- Written by a program of this session (wip/tools/pp.sh) over the print of the kit.
namespace Go.Proofs.Ytjnnglphdaemaaa.Q
open Go.RowKit Go.Proofs.YtjnnglphdaemaaaW.PrintWords Go.Proofs.YtjnnglphdaemaaaW.PrintLast Go.Proofs.YtjnnglphdaemaaaW.PrintMore
attribute [local go_sem] max2_int min2_int max_two min_two max_three min_three max_four min_four   -- for this text's walks alone
set_option linter.unusedVariables false
set_option linter.unusedSimpArgs false
end Go.Proofs.Ytjnnglphdaemaaa.Q
end

section
-- Written by a program of this session (wip/tools/pp.sh) over the print of the kit.
namespace Go.Proofs.Ytjnnglphdaemaaa.Q
open Go.RowKit Go.Proofs.YtjnnglphdaemaaaW.PrintWords Go.Proofs.YtjnnglphdaemaaaW.PrintLast Go.Proofs.YtjnnglphdaemaaaW.PrintMore
attribute [local go_sem] max2_int min2_int max_two min_two max_three min_three max_four min_four   -- for this text's walks alone
set_option linter.unusedVariables false
set_option linter.unusedSimpArgs false
end Go.Proofs.Ytjnnglphdaemaaa.Q
end

section
/- append([]byte, s...), s a string, with a word on where the new row lies. -/
namespace Go.Proofs.YtjnnglphdaemaaaW.PrintMore
open Go Go.Lib Go.RowKit Go.Proofs.YtjnnglphdaemaaaW.PrintWords
set_option linter.unusedVariables false
set_option linter.unusedSimpArgs false
section
variable {P : Program} {ops : Array Oper} {rest : List Oper} {o : Oper} {a : Act} {Q : Exit → Act → World → Prop}
end
end Go.Proofs.YtjnnglphdaemaaaW.PrintMore
end

section
-- Written by a program of this session (wip/tools/pp.sh) over the print of the kit.
namespace Go.Proofs.Ytjnnglphdaemaaa.Q
open Go.RowKit Go.Proofs.YtjnnglphdaemaaaW.PrintWords Go.Proofs.YtjnnglphdaemaaaW.PrintLast Go.Proofs.YtjnnglphdaemaaaW.PrintMore
attribute [local go_sem] max2_int min2_int max_two min_two max_three min_three max_four min_four   -- for this text's walks alone
set_option linter.unusedVariables false
set_option linter.unusedSimpArgs false
end Go.Proofs.Ytjnnglphdaemaaa.Q
end

section
-- Written by a program of this session (wip/tools/pp.sh) over the print of the kit.
namespace Go.Proofs.Ytjnnglphdaemaaa.Q
open Go.RowKit Go.Proofs.YtjnnglphdaemaaaW.PrintWords Go.Proofs.YtjnnglphdaemaaaW.PrintLast Go.Proofs.YtjnnglphdaemaaaW.PrintMore
attribute [local go_sem] max2_int min2_int max_two min_two max_three min_three max_four min_four   -- for this text's walks alone
set_option linter.unusedVariables false
set_option linter.unusedSimpArgs false
end Go.Proofs.Ytjnnglphdaemaaa.Q
end

section
-- Written by a program of this session (wip/tools/pp.sh) over the print of the kit.
namespace Go.Proofs.Ytjnnglphdaemaaa.Q
open Go.RowKit Go.Proofs.YtjnnglphdaemaaaW.PrintWords Go.Proofs.YtjnnglphdaemaaaW.PrintLast Go.Proofs.YtjnnglphdaemaaaW.PrintMore
attribute [local go_sem] max2_int min2_int max_two min_two max_three min_three max_four min_four   -- for this text's walks alone
set_option linter.unusedVariables false
set_option linter.unusedSimpArgs false
end Go.Proofs.Ytjnnglphdaemaaa.Q
end

section
/- Numbers and texts put behind bytes: the program's and the reference's are one. Plain. -/
namespace Go.Proofs.Ytjnnglphdaemaaa.Q
open Go.RowKit Go.Proofs.Ytjnnglphdaemaaa.B Go.Proofs.YtjnnglphdaemaaaW.PrintWords Go.Proofs.YtjnnglphdaemaaaW.PrintMore
set_option linter.unusedVariables false
set_option linter.unusedSimpArgs false
end Go.Proofs.Ytjnnglphdaemaaa.Q
end

section
/- The bytes of a number, and that nothing else is read as it. Plain. -/
namespace Go.Proofs.Ytjnnglphdaemaaa.Q
open Go.RowKit Go.Proofs.Ytjnnglphdaemaaa.B Go.Proofs.YtjnnglphdaemaaaW.PrintWords Go.Proofs.YtjnnglphdaemaaaW.PrintMore
set_option linter.unusedVariables false
set_option linter.unusedSimpArgs false
def num (n : Nat) : List Int := if 127 < n then ((128 + n % 128 : Nat) : Int) :: num (n / 128) else [(n : Int)]
termination_by n
decreasing_by omega
def textB (s : ByteArray) : List Int := num s.size ++ bytesOf s
def manyB (t : List ByteArray) : List Int := (t.map textB).flatten
def textsB (t : List ByteArray) : List Int := num t.length ++ manyB t
end Go.Proofs.Ytjnnglphdaemaaa.Q
end

section
-- Written by a program of this session (wip/tools/pp.sh) over the print of the kit.
namespace Go.Proofs.Ytjnnglphdaemaaa.Q
open Go.RowKit Go.Proofs.YtjnnglphdaemaaaW.PrintWords Go.Proofs.YtjnnglphdaemaaaW.PrintLast Go.Proofs.YtjnnglphdaemaaaW.PrintMore
attribute [local go_sem] max2_int min2_int max_two min_two max_three min_three max_four min_four   -- for this text's walks alone
set_option linter.unusedVariables false
set_option linter.unusedSimpArgs false
end Go.Proofs.Ytjnnglphdaemaaa.Q
end

section
-- Written by a program of this session (wip/tools/pp.sh) over the print of the kit.
namespace Go.Proofs.Ytjnnglphdaemaaa.Q
open Go.RowKit Go.Proofs.YtjnnglphdaemaaaW.PrintWords Go.Proofs.YtjnnglphdaemaaaW.PrintLast Go.Proofs.YtjnnglphdaemaaaW.PrintMore
attribute [local go_sem] max2_int min2_int max_two min_two max_three min_three max_four min_four   -- for this text's walks alone
set_option linter.unusedVariables false
set_option linter.unusedSimpArgs false
end Go.Proofs.Ytjnnglphdaemaaa.Q
end

section
/- A number read: it is what was put, and nothing else is read. Plain. -/
namespace Go.Proofs.Ytjnnglphdaemaaa.Q
open Go.RowKit Go.Proofs.Ytjnnglphdaemaaa.B Go.Proofs.YtjnnglphdaemaaaW.PrintWords Go.Proofs.YtjnnglphdaemaaaW.PrintMore
set_option linter.unusedVariables false
set_option linter.unusedSimpArgs false
theorem u64_w (n : Int) : IntKind.u64.wrap n = n % 18446744073709551616 := by simp [IntKind.wrap, IntKind.bits, IntKind.signed]
theorem u7 (k : Nat) (hk : k ≤ 4) : IntKind.u64.wrap (wrap64 (7 * (k : Int))) = ((7 * k : Nat) : Int) := by
 rw [w64 (by omega) (by omega), u64_w]
 omega
end Go.Proofs.Ytjnnglphdaemaaa.Q
end

section
/- What is put: the bytes themselves. Plain. -/
namespace Go.Proofs.Ytjnnglphdaemaaa.Q
open Go.RowKit Go.Proofs.Ytjnnglphdaemaaa.B Go.Proofs.YtjnnglphdaemaaaW.PrintWords Go.Proofs.YtjnnglphdaemaaaW.PrintMore
set_option linter.unusedVariables false
set_option linter.unusedSimpArgs false
end Go.Proofs.Ytjnnglphdaemaaa.Q
end

section
-- Written by a program of this session (wip/tools/pp.sh) over the print of the kit.
namespace Go.Proofs.Ytjnnglphdaemaaa.Q
open Go.RowKit Go.Proofs.YtjnnglphdaemaaaW.PrintWords Go.Proofs.YtjnnglphdaemaaaW.PrintLast Go.Proofs.YtjnnglphdaemaaaW.PrintMore
attribute [local go_sem] max2_int min2_int max_two min_two max_three min_three max_four min_four   -- for this text's walks alone
set_option linter.unusedVariables false
set_option linter.unusedSimpArgs false
end Go.Proofs.Ytjnnglphdaemaaa.Q
end

section
-- Written by a program of this session (wip/tools/pp.sh) over the print of the kit.
namespace Go.Proofs.Ytjnnglphdaemaaa.Q
open Go.RowKit Go.Proofs.YtjnnglphdaemaaaW.PrintWords Go.Proofs.YtjnnglphdaemaaaW.PrintLast Go.Proofs.YtjnnglphdaemaaaW.PrintMore
attribute [local go_sem] max2_int min2_int max_two min_two max_three min_three max_four min_four   -- for this text's walks alone
set_option linter.unusedVariables false
set_option linter.unusedSimpArgs false
end Go.Proofs.Ytjnnglphdaemaaa.Q
end

section
-- Written by a program of this session (wip/tools/pp.sh) over the print of the kit.
namespace Go.Proofs.Ytjnnglphdaemaaa.Q
open Go.RowKit Go.Proofs.YtjnnglphdaemaaaW.PrintWords Go.Proofs.YtjnnglphdaemaaaW.PrintLast Go.Proofs.YtjnnglphdaemaaaW.PrintMore
attribute [local go_sem] max2_int min2_int max_two min_two max_three min_three max_four min_four   -- for this text's walks alone
set_option linter.unusedVariables false
set_option linter.unusedSimpArgs false
end Go.Proofs.Ytjnnglphdaemaaa.Q
end

section
-- Written by a program of this session (wip/tools/pp.sh) over the print of the kit.
namespace Go.Proofs.Ytjnnglphdaemaaa.Q
open Go.RowKit Go.Proofs.YtjnnglphdaemaaaW.PrintWords Go.Proofs.YtjnnglphdaemaaaW.PrintLast Go.Proofs.YtjnnglphdaemaaaW.PrintMore
attribute [local go_sem] max2_int min2_int max_two min_two max_three min_three max_four min_four   -- for this text's walks alone
set_option linter.unusedVariables false
set_option linter.unusedSimpArgs false
end Go.Proofs.Ytjnnglphdaemaaa.Q
end

section
/- Texts read: they are what was put, and nothing else is read. Plain. -/
namespace Go.Proofs.Ytjnnglphdaemaaa.Q
open Go.RowKit Go.Proofs.Ytjnnglphdaemaaa.B Go.Proofs.YtjnnglphdaemaaaW.PrintWords Go.Proofs.YtjnnglphdaemaaaW.PrintMore
set_option linter.unusedVariables false
set_option linter.unusedSimpArgs false
end Go.Proofs.Ytjnnglphdaemaaa.Q
end

section
-- Written by a program of this session (wip/tools/pp.sh) over the print of the kit.
namespace Go.Proofs.Ytjnnglphdaemaaa.Q
open Go.RowKit Go.Proofs.YtjnnglphdaemaaaW.PrintWords Go.Proofs.YtjnnglphdaemaaaW.PrintLast Go.Proofs.YtjnnglphdaemaaaW.PrintMore
attribute [local go_sem] max2_int min2_int max_two min_two max_three min_three max_four min_four   -- for this text's walks alone
set_option linter.unusedVariables false
set_option linter.unusedSimpArgs false
end Go.Proofs.Ytjnnglphdaemaaa.Q
end

section
/- The program's (*getter).texts: the texts read behind a getter, in place. -/
namespace Go.Proofs.Ytjnnglphdaemaaa.Q
open Go.RowKit Go.Proofs.YtjnnglphdaemaaaW.PrintWords Go.Proofs.YtjnnglphdaemaaaW.PrintLast Go.Proofs.YtjnnglphdaemaaaW.PrintMore
set_option linter.unusedVariables false
set_option linter.unusedSimpArgs false
end Go.Proofs.Ytjnnglphdaemaaa.Q
end

section
-- Written by a program of this session (wip/tools/pp.sh) over the print of the kit.
namespace Go.Proofs.Ytjnnglphdaemaaa.Q
open Go.RowKit Go.Proofs.YtjnnglphdaemaaaW.PrintWords Go.Proofs.YtjnnglphdaemaaaW.PrintLast Go.Proofs.YtjnnglphdaemaaaW.PrintMore
attribute [local go_sem] max2_int min2_int max_two min_two max_three min_three max_four min_four   -- for this text's walks alone
set_option linter.unusedVariables false
set_option linter.unusedSimpArgs false
end Go.Proofs.Ytjnnglphdaemaaa.Q
end

section
-- Written by a program of this session (wip/tools/pp.sh) over the print of the kit.
namespace Go.Proofs.Ytjnnglphdaemaaa.Q
open Go.RowKit Go.Proofs.YtjnnglphdaemaaaW.PrintWords Go.Proofs.YtjnnglphdaemaaaW.PrintLast Go.Proofs.YtjnnglphdaemaaaW.PrintMore
attribute [local go_sem] max2_int min2_int max_two min_two max_three min_three max_four min_four   -- for this text's walks alone
set_option linter.unusedVariables false
set_option linter.unusedSimpArgs false
def spec_HeadOk.f (a0_0 : Int) (a0_1 : ByteArray) : Option (Bool) := (spec_l1In.f a0_0 0 200).bind fun t602 => (if t602 = true then (some ((a0_1.size : Int) == 32)) else (some false))
set_option maxHeartbeats 8000000 in
set_option maxRecDepth 100000 in
theorem spec_HeadOk.calls (a0_0 : Int) (a0_1 : ByteArray) (r : Bool) (w : World) (h : spec_HeadOk.f a0_0 a0_1 = some r) :
  Calls Try.prog 78 #[.agg #[.int .i64 a0_0, .string a0_1]] w fun e w' => e = .returned (.bool r) ∧ Below w.heap.size w w' := by
 have hu28 := Try.underlying28
 have HB := Aside0.mk (Below.refl w.heap.size w)
 have H : ((spec_l1In.f a0_0 0 200).bind fun t602 => (if t602 = true then (some ((a0_1.size : Int) == 32)) else (some false))) = some r := h
 clear h
 replace H := bi_ H; obtain ⟨t602, A2, H⟩ := H
 replace H := itb_ H; obtain ⟨rfl, H⟩ | ⟨rfl, H⟩ := H
 ·obtain rfl := Option.some.inj H
  go_enter Try.func78, Try.ntmps78
  go_wp2_with (first | ((with_reducible refine gd_ 1 ?_); (try (refine gate_guard (by rfl) ?_; dsimp only)); refine bx_ 1 28 #[.int .i64 a0_0, .string a0_1] ?_; intro gb601 hg w4 hbox hb; have BK601 := Aside0.mk hbox; have GW601 := gg_ hg HB; have GE601 := GW601; replace HB := ss_ HB hb; clear hb hbox hg; have hz5 := cz2_ BK601) | ((with_reducible refine gq_ 90 5 ?_); refine gc_ 5 Try.func90 (spec_l1In.calls a0_0 0 200 true _ A2.out) ?_; rintro e w' ⟨rfl, ⟨nd, rfl⟩⟩; refine ⟨_, rfl, ?_⟩))
  go_ret
  exact ⟨e2_, bw_ HB⟩
 ·obtain rfl := Option.some.inj H
  go_enter Try.func78, Try.ntmps78
  go_wp2_with (first | ((with_reducible refine gd_ 1 ?_); (try (refine gate_guard (by rfl) ?_; dsimp only)); refine bx_ 1 28 #[.int .i64 a0_0, .string a0_1] ?_; intro gb601 hg w6 hbox hb; have BK601 := Aside0.mk hbox; have GW601 := gg_ hg HB; have GE601 := GW601; replace HB := ss_ HB hb; clear hb hbox hg; have hz7 := cz2_ BK601) | ((with_reducible refine gq_ 90 5 ?_); refine gc_ 5 Try.func90 (spec_l1In.calls a0_0 0 200 false _ A2.out) ?_; rintro e w' ⟨rfl, ⟨nd, rfl⟩⟩; refine ⟨_, rfl, ?_⟩))
  go_ret
  exact ⟨e2_, bw_ HB⟩
end Go.Proofs.Ytjnnglphdaemaaa.Q
end

section
-- Written by a program of this session (wip/tools/pp.sh) over the print of the kit.
namespace Go.Proofs.Ytjnnglphdaemaaa.Q
open Go.RowKit Go.Proofs.YtjnnglphdaemaaaW.PrintWords Go.Proofs.YtjnnglphdaemaaaW.PrintLast Go.Proofs.YtjnnglphdaemaaaW.PrintMore
attribute [local go_sem] max2_int min2_int max_two min_two max_three min_three max_four min_four   -- for this text's walks alone
set_option linter.unusedVariables false
set_option linter.unusedSimpArgs false
def impl_HeadOk.f (a0_0 : Int) (a0_1 : ByteArray) : Option (Bool) := (impl_inRange.f a0_0 0 200).bind fun t602 => (if t602 = true then (some ((a0_1.size : Int) == 32)) else (some false))
set_option maxHeartbeats 8000000 in
set_option maxRecDepth 100000 in
theorem impl_HeadOk.calls (a0_0 : Int) (a0_1 : ByteArray) (r : Bool) (w : World) (h : impl_HeadOk.f a0_0 a0_1 = some r) :
  Calls Try.prog 93 #[.agg #[.int .i64 a0_0, .string a0_1]] w fun e w' => e = .returned (.bool r) ∧ Below w.heap.size w w' := by
 have hu28 := Try.underlying28
 have HB := Aside0.mk (Below.refl w.heap.size w)
 have H : ((impl_inRange.f a0_0 0 200).bind fun t602 => (if t602 = true then (some ((a0_1.size : Int) == 32)) else (some false))) = some r := h
 clear h
 replace H := bi_ H; obtain ⟨t602, A2, H⟩ := H
 replace H := itb_ H; obtain ⟨rfl, H⟩ | ⟨rfl, H⟩ := H
 ·obtain rfl := Option.some.inj H
  go_enter Try.func93, Try.ntmps93
  go_wp2_with (first | ((with_reducible refine gd_ 1 ?_); (try (refine gate_guard (by rfl) ?_; dsimp only)); refine bx_ 1 28 #[.int .i64 a0_0, .string a0_1] ?_; intro gb601 hg w4 hbox hb; have BK601 := Aside0.mk hbox; have GW601 := gg_ hg HB; have GE601 := GW601; replace HB := ss_ HB hb; clear hb hbox hg; have hz5 := cz2_ BK601) | ((with_reducible refine gq_ 67 5 ?_); refine gc_ 5 Try.func67 (impl_inRange.calls a0_0 0 200 true _ A2.out) ?_; rintro e w' ⟨rfl, ⟨nd, rfl⟩⟩; refine ⟨_, rfl, ?_⟩))
  go_ret
  exact ⟨e2_, bw_ HB⟩
 ·obtain rfl := Option.some.inj H
  go_enter Try.func93, Try.ntmps93
  go_wp2_with (first | ((with_reducible refine gd_ 1 ?_); (try (refine gate_guard (by rfl) ?_; dsimp only)); refine bx_ 1 28 #[.int .i64 a0_0, .string a0_1] ?_; intro gb601 hg w6 hbox hb; have BK601 := Aside0.mk hbox; have GW601 := gg_ hg HB; have GE601 := GW601; replace HB := ss_ HB hb; clear hb hbox hg; have hz7 := cz2_ BK601) | ((with_reducible refine gq_ 67 5 ?_); refine gc_ 5 Try.func67 (impl_inRange.calls a0_0 0 200 false _ A2.out) ?_; rintro e w' ⟨rfl, ⟨nd, rfl⟩⟩; refine ⟨_, rfl, ?_⟩))
  go_ret
  exact ⟨e2_, bw_ HB⟩
end Go.Proofs.Ytjnnglphdaemaaa.Q
end

section
/- Getters: what they leave, step by step. Plain. -/
namespace Go.Proofs.Ytjnnglphdaemaaa.Q
open Go.RowKit Go.Proofs.Ytjnnglphdaemaaa.B Go.Proofs.YtjnnglphdaemaaaW.PrintWords Go.Proofs.YtjnnglphdaemaaaW.PrintMore
set_option linter.unusedVariables false
set_option linter.unusedSimpArgs false
def headOk (n : Int) (s : ByteArray) : Bool := if 0 ≤ n ∧ n ≤ 200 then ((s.size : Int) == 32) else false
theorem spec_HeadOk_eq (n : Int) (s : ByteArray) : spec_HeadOk.f n s = some (headOk n s) := by
 unfold spec_HeadOk.f headOk
 rw [spec_in_eq]
 simp only [Option.bind_some]
 by_cases h : 0 ≤ n ∧ n ≤ 200
 ·rw [decide_eq_true h, if_pos h]
  rfl
 ·rw [decide_eq_false h, if_neg h]
  rfl
theorem impl_HeadOk_eq (n : Int) (s : ByteArray) : impl_HeadOk.f n s = some (headOk n s) := by
 unfold impl_HeadOk.f headOk
 rw [impl_in_eq]
 simp only [Option.bind_some]
 by_cases h : 0 ≤ n ∧ n ≤ 200
 ·rw [decide_eq_true h, if_pos h]
  rfl
 ·rw [decide_eq_false h, if_neg h]
  rfl
end Go.Proofs.Ytjnnglphdaemaaa.Q
end

section
-- Written by a program of this session (wip/tools/pp.sh) over the print of the kit.
namespace Go.Proofs.Ytjnnglphdaemaaa.Q
open Go.RowKit Go.Proofs.YtjnnglphdaemaaaW.PrintWords Go.Proofs.YtjnnglphdaemaaaW.PrintLast Go.Proofs.YtjnnglphdaemaaaW.PrintMore
attribute [local go_sem] max2_int min2_int max_two min_two max_three min_three max_four min_four   -- for this text's walks alone
set_option linter.unusedVariables false
set_option linter.unusedSimpArgs false
attribute [local go_sem high] eqA28
def spec_IsSigned.l0 : Nat → List (S28) → Int → Int → ByteArray → Option (Bool)
 | 0, _, _, _, _ => none
 | k + 1, x0, x5, x602000, x602001 => if x5 < (x0.length : Int) then (if 0 ≤ x5 then (if (((rd_T28 x0 x5).f0) == x602000 && ((((rd_T28 x0 x5).f1).toList) == x602001.toList)) = true then (some true) else (spec_IsSigned.l0 k x0 (wrap64 (x5 + 1)) x602000 x602001)) else (none)) else (some false)
def spec_IsSigned.f (k : Nat) (l0 : List (S28)) (a1_0 : Int) (a1_1 : ByteArray) : Option (Bool) := spec_IsSigned.l0 k l0 0 a1_0 a1_1
set_option maxHeartbeats 8000000 in
set_option maxRecDepth 100000 in
theorem spec_IsSigned.calls (k : Nat) (A0 : Option Addr) (c0 : Nat) (l0 : List (S28)) (a1_0 : Int) (a1_1 : ByteArray) (r : Bool) (w : World) (hr0 : Kd.C k28 w A0 l0.length l0) (hc0 : l0.length ≤ c0) (h : spec_IsSigned.f k l0 a1_0 a1_1 = some r) :
  Calls Try.prog 79 #[.slice A0 l0.length c0, .agg #[.int .i64 a1_0, .string a1_1]] w fun e w' => e = .returned (.bool r) ∧ Below w.heap.size w w' := by
 have hu28 := Try.underlying28
 have HR0 := Aside0.mk hr0
 have HC0 := Aside0.mk hc0
 clear hr0 hc0
 have HB := Aside0.mk (Below.refl w.heap.size w)
 have H : (spec_IsSigned.l0 k l0 0 a1_0 a1_1) = some r := h
 clear h
 have H' := Aside0.mk H
 clear H
 go_enter Try.func79, Try.ntmps79
 go_wp2_with (first | ((with_reducible refine gd_ 3 ?_); refine bx_ 3 28 #[.int .i64 a1_0, .string a1_1] ?_; intro gb601 hg w3 hbox hb; have BK601 := Aside0.mk hbox; have GW601 := gg_ hg HB; have GE601 := GW601; replace HB := ss_ HB hb; clear hb hbox hg))
 repeat (go_quiet (first | ((with_reducible refine gd_ 3 ?_); refine bx_ 3 28 #[.int .i64 a1_0, .string a1_1] ?_; intro gb601 hg w3 hbox hb; have BK601 := Aside0.mk hbox; have GW601 := gg_ hg HB; have GE601 := gg_ hg HB; replace HB := ss_ HB hb; clear hb hbox hg)); try go_wp2_with (first | ((with_reducible refine gd_ 3 ?_); refine bx_ 3 28 #[.int .i64 a1_0, .string a1_1] ?_; intro gb601 hg w3 hbox hb; have BK601 := Aside0.mk hbox; have GW601 := gg_ hg HB; have GE601 := GW601; replace HB := ss_ HB hb; clear hb hbox hg)))
 go_loopg [5] k (fun kq v5 w' => ∃ (x5_1 : Int), v5 = .int .i64 x5_1 ∧ Aside0 (spec_IsSigned.l0 kq l0 x5_1 a1_0 a1_1 = some r) ∧ Aside0 (kq ≤ k) ∧ Aside0 (w'.heap[gb601]? = some (.cells #[.int .i64 a1_0, .string a1_1] 28 (0, 0))) ∧ Aside0 (Below w.heap.size w w'))
 case atStart => exact ⟨(0), e1_, H', ⟨Nat.le_refl _⟩, ⟨kb_ BK601.out⟩, ⟨bw_ HB⟩⟩
 case round =>
  clear H'
  obtain ⟨x5_1, rfl, HA, HK1, BK601, HB⟩ := hrel
  cases gk with
  | zero => exact absurd HA.out (by simp [spec_IsSigned.l0])
  | succ k1 =>
   have H := HA.out
   clear HA
   simp only [spec_IsSigned.l0] at H
   replace H := itd_ H; obtain ⟨c4b0, H⟩ | ⟨c4b0, H⟩ := H
   ·replace H := ipd_ H; obtain ⟨c5b0, H⟩ := H
    replace H := it_ H; obtain ⟨c6, H⟩ | ⟨c6, H⟩ := H
    ·have c6b0 : (((rd_T28 l0 x5_1).f0) == a1_0 && ((((rd_T28 l0 x5_1).f1).toList) == a1_1.toList)) = true := c6
     (try (have c6b1 : decide (((rd_T28 l0 x5_1).f0) = a1_0 && ((((rd_T28 l0 x5_1).f1).toList) == a1_1.toList)) = true := by simpa using c6))
     (try (have c6b2 : (((rd_T28 l0 x5_1).f0) == a1_0 && ((((rd_T28 l0 x5_1).f1).toList) == a1_1.toList)) = true := by simpa using c6))
     clear c6
     obtain rfl := Option.some.inj H
     have p602 : 0 ≤ (x5_1 : Int) := of_decide_eq_true as_
     have q602 : x5_1 < (l0.length : Int) := of_decide_eq_true as_
     obtain ⟨ad602, e602, hx602_0, hx602_1⟩ := at_T28 HR0.out x5_1 p602 q602
     cases e602
     replace hx602_0 := (HB.out.cell (World.block_lt_of_cell? w _ hx602_0)).trans hx602_0
     replace hx602_1 := (HB.out.cell (World.block_lt_of_cell? w _ hx602_1)).trans hx602_1
     replace p602 := eq_true p602
     replace q602 := eq_true q602
     have hz7 := cz2_ BK601
     go_wp2
     repeat (go_quiet (fail); try go_wp2)
     go_ret
     exact ⟨e2_, bw_ HB⟩
    ·have c6b0 : (((rd_T28 l0 x5_1).f0) == a1_0 && ((((rd_T28 l0 x5_1).f1).toList) == a1_1.toList)) = false := by simpa using c6
     (try (have c6b1 : decide (((rd_T28 l0 x5_1).f0) = a1_0 && ((((rd_T28 l0 x5_1).f1).toList) == a1_1.toList)) = false := by simpa using c6))
     (try (have c6b2 : (((rd_T28 l0 x5_1).f0) == a1_0 && ((((rd_T28 l0 x5_1).f1).toList) == a1_1.toList)) = false := by simpa using c6))
     (try (have c6b3 : ¬ (((rd_T28 l0 x5_1).f0) = a1_0 && ((((rd_T28 l0 x5_1).f1).toList) == a1_1.toList)) := by simpa using c6))
     clear c6
     have H' := Aside0.mk H
     clear H
     have p602 : 0 ≤ (x5_1 : Int) := of_decide_eq_true as_
     have q602 : x5_1 < (l0.length : Int) := of_decide_eq_true as_
     obtain ⟨ad602, e602, hx602_0, hx602_1⟩ := at_T28 HR0.out x5_1 p602 q602
     cases e602
     replace hx602_0 := (HB.out.cell (World.block_lt_of_cell? w _ hx602_0)).trans hx602_0
     replace hx602_1 := (HB.out.cell (World.block_lt_of_cell? w _ hx602_1)).trans hx602_1
     replace p602 := eq_true p602
     replace q602 := eq_true q602
     have hz8 := cz2_ BK601
     go_wp2
     repeat (go_quiet (fail); try go_wp2)
     go_roundg k1
     case measure => have := HK1.out; omega
     case rel => exact ⟨(wrap64 (x5_1 + 1)), e1_, H', ⟨by have := HK1.out; omega⟩, ⟨kb_ BK601.out⟩, ⟨bw_ HB⟩⟩
   ·obtain rfl := Option.some.inj H
    go_wp2
    repeat (go_quiet (fail); try go_wp2)
    go_ret
    exact ⟨e2_, bw_ HB⟩
end Go.Proofs.Ytjnnglphdaemaaa.Q
end

section
-- Written by a program of this session (wip/tools/pp.sh) over the print of the kit.
namespace Go.Proofs.Ytjnnglphdaemaaa.Q
open Go.RowKit Go.Proofs.YtjnnglphdaemaaaW.PrintWords Go.Proofs.YtjnnglphdaemaaaW.PrintLast Go.Proofs.YtjnnglphdaemaaaW.PrintMore
attribute [local go_sem] max2_int min2_int max_two min_two max_three min_three max_four min_four   -- for this text's walks alone
set_option linter.unusedVariables false
set_option linter.unusedSimpArgs false
attribute [local go_sem high] eqA28
def impl_Head_115.l0 : Nat → List (S28) → Int → Int → Int → ByteArray → Option (Int)
 | 0, _, _, _, _, _ => none
 | k + 1, x0, x7, x8, x602000, x602001 => if x8 < x7 then (if 0 ≤ x8 then (if x8 < (x0.length : Int) then (if (x602000 == ((rd_T28 x0 x8).f0) && (x602001.toList == (((rd_T28 x0 x8).f1).toList))) = true then (some x8) else (impl_Head_115.l0 k x0 x7 (wrap64 (x8 + 1)) x602000 x602001)) else (none)) else (none)) else (some (-1))
def impl_Head_115.f (k : Nat) (l0 : List (S28)) (a1_0 : Int) (a1_1 : ByteArray) : Option (Int) := impl_Head_115.l0 k l0 (l0.length : Int) 0 a1_0 a1_1
set_option maxHeartbeats 8000000 in
set_option maxRecDepth 100000 in
theorem impl_Head_115.calls (k : Nat) (A0 : Option Addr) (c0 : Nat) (l0 : List (S28)) (a1_0 : Int) (a1_1 : ByteArray) (r : Int) (w : World) (hr0 : Kd.C k28 w A0 l0.length l0) (hc0 : l0.length ≤ c0) (h : impl_Head_115.f k l0 a1_0 a1_1 = some r) :
  Calls Try.prog 115 #[.slice A0 l0.length c0, .agg #[.int .i64 a1_0, .string a1_1]] w fun e w' => e = .returned (.int .i64 r) ∧ Below w.heap.size w w' := by
 have hu28 := Try.underlying28
 have HR0 := Aside0.mk hr0
 have HC0 := Aside0.mk hc0
 clear hr0 hc0
 have HB := Aside0.mk (Below.refl w.heap.size w)
 have H : (impl_Head_115.l0 k l0 (l0.length : Int) 0 a1_0 a1_1) = some r := h
 clear h
 have H' := Aside0.mk H
 clear H
 go_enter Try.func115, Try.ntmps115
 go_wp2_with (first | ((with_reducible refine gd_ 3 ?_); refine bx_ 3 28 #[.int .i64 a1_0, .string a1_1] ?_; intro gb601 hg w3 hbox hb; have BK601 := Aside0.mk hbox; have GW601 := gg_ hg HB; have GE601 := GW601; replace HB := ss_ HB hb; clear hb hbox hg))
 repeat (go_quiet (first | ((with_reducible refine gd_ 3 ?_); refine bx_ 3 28 #[.int .i64 a1_0, .string a1_1] ?_; intro gb601 hg w3 hbox hb; have BK601 := Aside0.mk hbox; have GW601 := gg_ hg HB; have GE601 := gg_ hg HB; replace HB := ss_ HB hb; clear hb hbox hg)); try go_wp2_with (first | ((with_reducible refine gd_ 3 ?_); refine bx_ 3 28 #[.int .i64 a1_0, .string a1_1] ?_; intro gb601 hg w3 hbox hb; have BK601 := Aside0.mk hbox; have GW601 := gg_ hg HB; have GE601 := GW601; replace HB := ss_ HB hb; clear hb hbox hg)))
 go_loopg [8] k (fun kq v8 w' => ∃ (x8_1 : Int), v8 = .int .i64 x8_1 ∧ Aside0 (impl_Head_115.l0 kq l0 (l0.length : Int) x8_1 a1_0 a1_1 = some r) ∧ Aside0 (kq ≤ k) ∧ Aside0 (w'.heap[gb601]? = some (.cells #[.int .i64 a1_0, .string a1_1] 28 (0, 0))) ∧ Aside0 (Below w.heap.size w w'))
 case atStart => exact ⟨(0), e1_, H', ⟨Nat.le_refl _⟩, ⟨kb_ BK601.out⟩, ⟨bw_ HB⟩⟩
 case round =>
  clear H'
  obtain ⟨x8_1, rfl, HA, HK1, BK601, HB⟩ := hrel
  cases gk with
  | zero => exact absurd HA.out (by simp [impl_Head_115.l0])
  | succ k1 =>
   have H := HA.out
   clear HA
   simp only [impl_Head_115.l0] at H
   replace H := itd_ H; obtain ⟨c4b0, H⟩ | ⟨c4b0, H⟩ := H
   ·replace H := ipd_ H; obtain ⟨c5b0, H⟩ := H
    replace H := ipd_ H; obtain ⟨c6b0, H⟩ := H
    replace H := it_ H; obtain ⟨c7, H⟩ | ⟨c7, H⟩ := H
    ·have c7b0 : (a1_0 == ((rd_T28 l0 x8_1).f0) && (a1_1.toList == (((rd_T28 l0 x8_1).f1).toList))) = true := c7
     (try (have c7b1 : decide (a1_0 = ((rd_T28 l0 x8_1).f0) && (a1_1.toList == (((rd_T28 l0 x8_1).f1).toList))) = true := by simpa using c7))
     (try (have c7b2 : (a1_0 == ((rd_T28 l0 x8_1).f0) && (a1_1.toList == (((rd_T28 l0 x8_1).f1).toList))) = true := by simpa using c7))
     clear c7
     obtain rfl := Option.some.inj H
     have hz8 := cz2_ BK601
     have p602 : 0 ≤ (x8_1 : Int) := of_decide_eq_true as_
     have q602 : x8_1 < (l0.length : Int) := of_decide_eq_true as_
     obtain ⟨ad602, e602, hx602_0, hx602_1⟩ := at_T28 HR0.out x8_1 p602 q602
     cases e602
     replace hx602_0 := (HB.out.cell (World.block_lt_of_cell? w _ hx602_0)).trans hx602_0
     replace hx602_1 := (HB.out.cell (World.block_lt_of_cell? w _ hx602_1)).trans hx602_1
     replace p602 := eq_true p602
     replace q602 := eq_true q602
     go_wp2
     repeat (go_quiet (fail); try go_wp2)
     go_ret
     exact ⟨e2_, bw_ HB⟩
    ·have c7b0 : (a1_0 == ((rd_T28 l0 x8_1).f0) && (a1_1.toList == (((rd_T28 l0 x8_1).f1).toList))) = false := by simpa using c7
     (try (have c7b1 : decide (a1_0 = ((rd_T28 l0 x8_1).f0) && (a1_1.toList == (((rd_T28 l0 x8_1).f1).toList))) = false := by simpa using c7))
     (try (have c7b2 : (a1_0 == ((rd_T28 l0 x8_1).f0) && (a1_1.toList == (((rd_T28 l0 x8_1).f1).toList))) = false := by simpa using c7))
     (try (have c7b3 : ¬ (a1_0 = ((rd_T28 l0 x8_1).f0) && (a1_1.toList == (((rd_T28 l0 x8_1).f1).toList))) := by simpa using c7))
     clear c7
     have H' := Aside0.mk H
     clear H
     have hz9 := cz2_ BK601
     have p602 : 0 ≤ (x8_1 : Int) := of_decide_eq_true as_
     have q602 : x8_1 < (l0.length : Int) := of_decide_eq_true as_
     obtain ⟨ad602, e602, hx602_0, hx602_1⟩ := at_T28 HR0.out x8_1 p602 q602
     cases e602
     replace hx602_0 := (HB.out.cell (World.block_lt_of_cell? w _ hx602_0)).trans hx602_0
     replace hx602_1 := (HB.out.cell (World.block_lt_of_cell? w _ hx602_1)).trans hx602_1
     replace p602 := eq_true p602
     replace q602 := eq_true q602
     go_wp2
     repeat (go_quiet (fail); try go_wp2)
     go_roundg k1
     case measure => have := HK1.out; omega
     case rel => exact ⟨(wrap64 (x8_1 + 1)), e1_, H', ⟨by have := HK1.out; omega⟩, ⟨kb_ BK601.out⟩, ⟨bw_ HB⟩⟩
   ·obtain rfl := Option.some.inj H
    go_wp2
    repeat (go_quiet (fail); try go_wp2)
    go_ret
    exact ⟨e2_, bw_ HB⟩
end Go.Proofs.Ytjnnglphdaemaaa.Q
end

section
-- Written by a program of this session (wip/tools/pp.sh) over the print of the kit.
namespace Go.Proofs.Ytjnnglphdaemaaa.Q
open Go.RowKit Go.Proofs.YtjnnglphdaemaaaW.PrintWords Go.Proofs.YtjnnglphdaemaaaW.PrintLast Go.Proofs.YtjnnglphdaemaaaW.PrintMore
attribute [local go_sem] max2_int min2_int max_two min_two max_three min_three max_four min_four   -- for this text's walks alone
set_option linter.unusedVariables false
set_option linter.unusedSimpArgs false
def impl_Head_80.f (k : Nat) (l0 : List (S28)) (a1_0 : Int) (a1_1 : ByteArray) : Option (Bool) := (impl_Head_115.f k l0 a1_0 a1_1).bind fun t602 => (some (decide (t602 ≥ 0)))
set_option maxHeartbeats 8000000 in
set_option maxRecDepth 100000 in
theorem impl_Head_80.calls (k : Nat) (A0 : Option Addr) (c0 : Nat) (l0 : List (S28)) (a1_0 : Int) (a1_1 : ByteArray) (r : Bool) (w : World) (hr0 : Kd.C k28 w A0 l0.length l0) (hc0 : l0.length ≤ c0) (h : impl_Head_80.f k l0 a1_0 a1_1 = some r) :
  Calls Try.prog 80 #[.slice A0 l0.length c0, .agg #[.int .i64 a1_0, .string a1_1]] w fun e w' => e = .returned (.bool r) ∧ Below w.heap.size w w' := by
 have hu28 := Try.underlying28
 have HR0 := Aside0.mk hr0
 have HC0 := Aside0.mk hc0
 clear hr0 hc0
 have HB := Aside0.mk (Below.refl w.heap.size w)
 have H : ((impl_Head_115.f k l0 a1_0 a1_1).bind fun t602 => (some (decide (t602 ≥ 0)))) = some r := h
 clear h
 replace H := bi_ H; obtain ⟨t602, A3, H⟩ := H
 obtain rfl := Option.some.inj H
 go_enter Try.func80, Try.ntmps80
 go_wp2_with (first | ((with_reducible refine gd_ 3 ?_); refine bx_ 3 28 #[.int .i64 a1_0, .string a1_1] ?_; intro gb601 hg w4 hbox hb; have BK601 := Aside0.mk hbox; have GW601 := gg_ hg HB; have GE601 := GW601; replace HB := ss_ HB hb; clear hb hbox hg; have hz5 := cz2_ BK601) | ((with_reducible refine gq_ 115 7 ?_); refine gc_ 7 Try.func115 (impl_Head_115.calls k _ _ l0 a1_0 a1_1 t602 _ (cb_ HR0 HB) HC0.out A3.out) ?_; rintro e w6 ⟨rfl, hb⟩; refine ⟨_, rfl, ?_⟩; replace BK601 := kl_ BK601 hb; replace HB := ss_ HB hb; clear hb))
 go_ret
 exact ⟨e2_, bw_ HB⟩
end Go.Proofs.Ytjnnglphdaemaaa.Q
end

section
-- Written by a program of this session (wip/tools/pp.sh) over the print of the kit.
namespace Go.Proofs.Ytjnnglphdaemaaa.Q
open Go.RowKit Go.Proofs.YtjnnglphdaemaaaW.PrintWords Go.Proofs.YtjnnglphdaemaaaW.PrintLast Go.Proofs.YtjnnglphdaemaaaW.PrintMore
attribute [local go_sem] max2_int min2_int max_two min_two max_three min_three max_four min_four   -- for this text's walks alone
set_option linter.unusedVariables false
set_option linter.unusedSimpArgs false
def impl_IsSigned.f (k : Nat) (l0 : List (S28)) (a1_0 : Int) (a1_1 : ByteArray) : Option (Bool) := (impl_Head_80.f k l0 a1_0 a1_1).bind fun t602 => (some t602)
set_option maxHeartbeats 8000000 in
set_option maxRecDepth 100000 in
theorem impl_IsSigned.calls (k : Nat) (A0 : Option Addr) (c0 : Nat) (l0 : List (S28)) (a1_0 : Int) (a1_1 : ByteArray) (r : Bool) (w : World) (hr0 : Kd.C k28 w A0 l0.length l0) (hc0 : l0.length ≤ c0) (h : impl_IsSigned.f k l0 a1_0 a1_1 = some r) :
  Calls Try.prog 22 #[.slice A0 l0.length c0, .agg #[.int .i64 a1_0, .string a1_1]] w fun e w' => e = .returned (.bool r) ∧ Below w.heap.size w w' := by
 have hu28 := Try.underlying28
 have HR0 := Aside0.mk hr0
 have HC0 := Aside0.mk hc0
 clear hr0 hc0
 have HB := Aside0.mk (Below.refl w.heap.size w)
 have H : ((impl_Head_80.f k l0 a1_0 a1_1).bind fun t602 => (some t602)) = some r := h
 clear h
 replace H := bi_ H; obtain ⟨t602, A3, H⟩ := H
 obtain rfl := Option.some.inj H
 go_enter Try.func22, Try.ntmps22
 go_wp2_with (first | ((with_reducible refine gd_ 3 ?_); refine bx_ 3 28 #[.int .i64 a1_0, .string a1_1] ?_; intro gb601 hg w4 hbox hb; have BK601 := Aside0.mk hbox; have GW601 := gg_ hg HB; have GE601 := GW601; replace HB := ss_ HB hb; clear hb hbox hg; have hz5 := cz2_ BK601) | ((with_reducible refine gq_ 80 7 ?_); refine gc_ 7 Try.func80 (impl_Head_80.calls k _ _ l0 a1_0 a1_1 t602 _ (cb_ HR0 HB) HC0.out A3.out) ?_; rintro e w6 ⟨rfl, hb⟩; refine ⟨_, rfl, ?_⟩; replace BK601 := kl_ BK601 hb; replace HB := ss_ HB hb; clear hb))
 go_ret
 exact ⟨e2_, bw_ HB⟩
end Go.Proofs.Ytjnnglphdaemaaa.Q
end

section
/- IsSigned, the program's and the reference's: whether a list of heads has one of this size and root. -/
namespace Go.Proofs.Ytjnnglphdaemaaa.Q
open Go.RowKit Go.Proofs.Ytjnnglphdaemaaa.B Go.Proofs.YtjnnglphdaemaaaW.PrintWords
def hasHead (l : List IHead) (a : Int) (b : ByteArray) : Bool := l.any fun x => x.f0 == a && (x.f1.toList == b.toList)
theorem rdI {l : List IHead} {i : Nat} {x : IHead} (h : l[i]? = some x) : rd_T28 l (i : Int) = x := by
 unfold rd_T28
 simp [List.getD_eq_getElem?_getD, h]
theorem next64 {i n : Nat} (h : i < n) (hn : n ≤ 9223372036854775807) : wrap64 ((i : Int) + 1) = ((i + 1 : Nat) : Int) := by
 rw [w64 (by omega) (by omega)]
 omega
theorem spec_IsSigned_ev (l : List IHead) (a : Int) (b : ByteArray) (hl : l.length ≤ 9223372036854775807) : Ev (fun k => spec_IsSigned.f k l a b) (hasHead l a b) := by
 have main : ∀ (d i : Nat), i + d = l.length → Ev (fun k => spec_IsSigned.l0 k l (i : Int) a b) (hasHead (l.drop i) a b) := by
  intro d
  induction d with
  | zero =>
   intro i hi
   refine Ev.step (f := fun _ => some false) (fun k => ?_) (Ev.one (Ev.now _) ?_)
   ·simp only [spec_IsSigned.l0]
    rw [if_neg (by omega)]
   ·rw [List.drop_of_length_le (by omega)]
    rfl
  | succ d ih =>
   intro i hi
   obtain ⟨x, hx⟩ := get_some (l := l) (i := i) (by omega)
   by_cases h : (x.f0 == a && (x.f1.toList == b.toList)) = true
   ·refine Ev.step (f := fun _ => some true) (fun k => ?_) (Ev.one (Ev.now _) ?_)
    ·simp only [spec_IsSigned.l0]
     rw [if_pos (by omega), if_pos (by omega), rdI hx, if_pos h]
    ·rw [drop_one hx]
     simp only [hasHead, List.any_cons, h, Bool.true_or]
   ·refine Ev.step (fun k => ?_) (Ev.one (ih (i + 1) (by omega)) ?_)
    ·simp only [spec_IsSigned.l0]
     rw [if_pos (by omega), if_pos (by omega), rdI hx, if_neg h, next64 (show i < l.length by omega) hl]
    ·rw [drop_one hx]
     simp only [hasHead, List.any_cons, Bool.eq_false_iff.mpr h, Bool.false_or]
 exact main l.length 0 (by omega)
theorem impl_Index_ev (l : List IHead) (a : Int) (b : ByteArray) (hl : l.length ≤ 9223372036854775807) : ∃ r, Ev (fun k => impl_Head_115.f k l a b) r ∧ decide (r ≥ 0) = hasHead l a b := by
 have main : ∀ (d i : Nat), i + d = l.length → ∃ r, Ev (fun k => impl_Head_115.l0 k l (l.length : Int) (i : Int) a b) r ∧ decide (r ≥ 0) = hasHead (l.drop i) a b := by
  intro d
  induction d with
  | zero =>
   intro i hi
   refine ⟨-1, Ev.step (f := fun _ => some (-1)) (fun k => ?_) (Ev.now _), ?_⟩
   ·simp only [impl_Head_115.l0]
    rw [if_neg (by omega)]
   ·rw [List.drop_of_length_le (by omega)]
    rfl
  | succ d ih =>
   intro i hi
   obtain ⟨x, hx⟩ := get_some (l := l) (i := i) (by omega)
   have hsym : (a == x.f0 && (b.toList == x.f1.toList)) = (x.f0 == a && (x.f1.toList == b.toList)) := by
    rw [Bool.beq_comm (a := a), Bool.beq_comm (a := b.toList)]
   by_cases h : (x.f0 == a && (x.f1.toList == b.toList)) = true
   ·refine ⟨(i : Int), Ev.step (f := fun _ => some (i : Int)) (fun k => ?_) (Ev.now _), ?_⟩
    ·simp only [impl_Head_115.l0]
     rw [if_pos (by omega), if_pos (by omega), if_pos (by omega), rdI hx, hsym, if_pos h]
    ·rw [drop_one hx]
     simp only [hasHead, List.any_cons, h, Bool.true_or]
     exact decide_eq_true (by omega)
   ·obtain ⟨r, h1, h2⟩ := ih (i + 1) (by omega)
    refine ⟨r, Ev.step (fun k => ?_) h1, ?_⟩
    ·simp only [impl_Head_115.l0]
     rw [if_pos (by omega), if_pos (by omega), if_pos (by omega), rdI hx, hsym, if_neg h, next64 (show i < l.length by omega) hl]
    ·rw [h2, drop_one hx]
     simp only [hasHead, List.any_cons, Bool.eq_false_iff.mpr h, Bool.false_or]
 obtain ⟨r, h1, h2⟩ := main l.length 0 (by omega)
 exact ⟨r, h1, h2⟩
theorem impl_IsSigned_ev (l : List IHead) (a : Int) (b : ByteArray) (hl : l.length ≤ 9223372036854775807) : Ev (fun k => impl_IsSigned.f k l a b) (hasHead l a b) := by
 obtain ⟨r, h1, h2⟩ := impl_Index_ev l a b hl
 refine Ev.congr (fun k => by unfold impl_IsSigned.f impl_Head_80.f; rfl) ?_
 refine Ev.bind (Ev.bind h1 (Ev.now _)) ?_
 rw [h2]
 exact Ev.now _
end Go.Proofs.Ytjnnglphdaemaaa.Q
end

section
/- slices.Grow of no texts by at least one: new room (bounds: what append takes). Its capacity's bound tells that there is no row. -/
namespace Go.Proofs.Ytjnnglphdaemaaa.Q
open Go.RowKit Go.Proofs.YtjnnglphdaemaaaW.PrintWords Go.Proofs.YtjnnglphdaemaaaW.PrintLast Go.Proofs.YtjnnglphdaemaaaW.PrintMore
set_option linter.unusedVariables false
set_option linter.unusedSimpArgs false
def slices_Grow_string_string.f (l0 : List ByteArray) (a1 : Int) : Option (List ByteArray) := if l0.length = 0 ∧ 1 ≤ a1 ∧ a1 ≤ 1000000000 then some [] else none
theorem slices_Grow_string_string.info : (Try.prog.info? 9).map (fun i => (i.zero, i.size, i.bytes)) = some (some (.string ⟨#[]⟩), 1, 16) := by kernel_rfl
def rowOf : Option Addr → Nat
 | none => 0
 | some _ => 1
set_option maxHeartbeats 1000000 in
set_option maxRecDepth 100000 in
theorem slices_Grow_string_string.calls (A0 : Option Addr) (c0 : Nat) (l0 : List ByteArray) (a1 : Int) (r : List ByteArray) (w : World) (hr0 : Kd.C Kd.string w A0 l0.length l0) (hc0 : rowOf A0 + c0 ≤ 0) (h : slices_Grow_string_string.f l0 a1 = some r) :
  Calls Try.prog 127 #[.slice A0 l0.length c0, .int .i64 a1] w fun e w' => ∃ v0_ : Value, e = .returned (v0_) ∧ Kd.R Kd.string 9 w' w.heap.size (fun _ => True) v0_ r ∧ Below w.heap.size w w' := by
 unfold slices_Grow_string_string.f at h
 by_cases hl : l0.length = 0 ∧ 1 ≤ a1 ∧ a1 ≤ 1000000000
 ·rw [if_pos hl] at h
  obtain rfl := Option.some.inj h
  obtain ⟨h0, h1, h2⟩ := hl
  have hA : A0 = none := by
   cases A0 with
   | none => rfl
   | some x => simp [rowOf] at hc0
  subst hA
  have hc : c0 = 0 := by
   simp only [rowOf] at hc0
   omega
  subst hc
  obtain rfl := List.eq_nil_of_length_eq_zero h0
  clear hr0 hc0 h h0
  have LM := Aside0.mk h2
  have L1 := Aside0.mk h1
  have c1 : decide (a1 < 0) = false := decide_eq_false (by omega)
  have hw : wrap64 (a1 - 0) = a1 := by
   rw [Int.sub_zero]
   unfold wrap64
   omega
  have hw2 : wrap64 a1 = a1 := by
   unfold wrap64
   omega
  have c2 : decide (0 < a1) = true := decide_eq_true (by omega)
  clear h1 h2
  have KEY := Aside0.mk (fun (o : Oper) (a : Act) (ops : Array Oper) (rest : List Oper) (Q : Exit → Act → World → Prop) (ho : o.op = .call { callee := .builtin .append, args := #[.tmp 20, .tmp 21], argTypes := #[24, 3] }) (hg : o.guard = none) (hx1 : a.eval (.tmp 20) = .slice none 0 0) (hx2 : a.eval (.tmp 21) = .int .i64 a1) => Kd.R_append_zeros (P := Try.prog) (o := o) (a := a) (ops := ops) (rest := rest) (Q := Q) Kd.string (w0 := w) w.heap.size hg (.tmp 20) (.tmp 21) 24 3 9 (.string ⟨#[]⟩) 16 ho Try.underlying24 Try.underlying3 slices_Grow_string_string.info rfl (by decide) (by omega) (.slice none 0 0) [] ByteArray.empty a1 (fun _ => True) hx1 hx2 rfl (fun _ _ => trivial) (Kd.R_nil _ _ _ _ _) (by have := L1.out; omega) (Below.refl _ _) (Nat.le_refl _) (by have := LM.out; simp only [List.length_nil]; omega))
  go_enter Try.func127, Try.ntmps127
  go_wp2_with (at_builtin; refine KEY.out _ _ _ _ _ rfl rfl ?aS ?aX ?_; (case aS => first | rfl | (go_simp; done) | (go_simp; rfl)); (case aX => first | rfl | (simp [hw2, hw]; done) | (go_simp; done) | (go_simp; rfl)); intro v1 w1 ho hb hg hat; obtain ⟨A1, k1, e1⟩ := Kd.R_slice ho; subst e1; have HO := Aside0.mk ho; have HB := Aside0.mk hb; clear ho hb hg hat)
  go_ret
  exact ⟨_, e2_, Kd.R_take (m := 0) HO.out (Nat.zero_le _), HB.out⟩
 ·rw [if_neg hl] at h
  cases h
end Go.Proofs.Ytjnnglphdaemaaa.Q
end

section
-- Written by a program of this session (wip/tools/pp.sh) over the print of the kit.
namespace Go.Proofs.Ytjnnglphdaemaaa.Q
open Go.RowKit Go.Proofs.YtjnnglphdaemaaaW.PrintWords Go.Proofs.YtjnnglphdaemaaaW.PrintLast Go.Proofs.YtjnnglphdaemaaaW.PrintMore
attribute [local go_sem] max2_int min2_int max_two min_two max_three min_three max_four min_four   -- for this text's walks alone
set_option linter.unusedVariables false
set_option linter.unusedSimpArgs false
mutual
def slices_Concat_string_string.l0 : Nat → List (List ByteArray) → Int → List (List ByteArray) → Int → Int → Option (List ByteArray)
 | 0, _, _, _, _, _ => none
 | k + 1, x0, x3, x9, x10, x11 => if x11 < x10 then (if 0 ≤ x11 then (if x11 < (x9.length : Int) then (if (wrap64 (x3 + ((rd_L4 x9 x11).length : Int))) < 0 then (none) else (slices_Concat_string_string.l0 k x0 (wrap64 (x3 + ((rd_L4 x9 x11).length : Int))) x9 x10 (wrap64 (x11 + 1)))) else (none)) else (none)) else ((slices_Grow_string_string.f ([] : List ByteArray) x3).bind fun t602 => (slices_Concat_string_string.l1 k t602 x0 (x0.length : Int) 0))
def slices_Concat_string_string.l1 : Nat → List ByteArray → List (List ByteArray) → Int → Int → Option (List ByteArray)
 | 0, _, _, _, _ => none
 | k + 1, x6, x25, x26, x27 => if x27 < x26 then (if 0 ≤ x27 then (if x27 < (x25.length : Int) then (if x6.length + (rd_L4 x25 x27).length < 8796093022208 then (slices_Concat_string_string.l1 k (x6 ++ (rd_L4 x25 x27)) x25 x26 (wrap64 (x27 + 1))) else (none)) else (none)) else (none)) else (some x6)
end
def slices_Concat_string_string.f (k : Nat) (l0 : List (List ByteArray)) : Option (List ByteArray) := slices_Concat_string_string.l0 k l0 0 l0 (l0.length : Int) 0
set_option maxHeartbeats 8000000 in
set_option maxRecDepth 100000 in
theorem slices_Concat_string_string.calls (k : Nat) (A0 : Option Addr) (c0 : Nat) (l0 : List (List ByteArray)) (r : List ByteArray) (w : World) (hr0 : Kd.C (Kd.slice 9 Kd.string) w A0 l0.length l0) (hc0 : l0.length ≤ c0) (h : slices_Concat_string_string.f k l0 = some r) :
  Calls Try.prog 106 #[.slice A0 l0.length c0] w fun e w' => ∃ v0_ : Value, e = .returned (v0_) ∧ Kd.R Kd.string 9 w' w.heap.size (fun _ => True) v0_ r ∧ Below w.heap.size w w' := by
 have HR0 := Aside0.mk hr0
 have HC0 := Aside0.mk hc0
 clear hr0 hc0
 have HB := Aside0.mk (Below.refl w.heap.size w)
 have H : (slices_Concat_string_string.l0 k l0 0 l0 (l0.length : Int) 0) = some r := h
 clear h
 have H' := Aside0.mk H
 clear H
 go_enter Try.func106, Try.ntmps106
 go_wp2
 go_loopg [3, 11] k (fun kq v3 v11 w' => ∃ (x3_1 : Int) (x11_1 : Int), v3 = .int .i64 x3_1 ∧ v11 = .int .i64 x11_1 ∧ Aside0 (slices_Concat_string_string.l0 kq l0 x3_1 l0 (l0.length : Int) x11_1 = some r) ∧ Aside0 (kq ≤ k) ∧ Aside0 (Below w.heap.size w w'))
 case atStart => exact ⟨(0), (0), e1_, e1_, H', ⟨Nat.le_refl _⟩, ⟨bw_ HB⟩⟩
 case round =>
  clear H'
  obtain ⟨x3_1, x11_1, rfl, rfl, HA, HK1, HB⟩ := hrel
  cases gk with
  | zero => exact absurd HA.out (by simp [slices_Concat_string_string.l0])
  | succ k1 =>
   have H := HA.out
   clear HA
   simp only [slices_Concat_string_string.l0] at H
   replace H := itd_ H; obtain ⟨c2b0, H⟩ | ⟨c2b0, H⟩ := H
   ·replace H := ipd_ H; obtain ⟨c3b0, H⟩ := H
    replace H := ipd_ H; obtain ⟨c4b0, H⟩ := H
    replace H := ind_ H; obtain ⟨c5b0, H⟩ := H
    have H' := Aside0.mk H
    clear H
    have p601 : 0 ≤ (x11_1 : Int) := of_decide_eq_true as_
    have q601 : x11_1 < (l0.length : Int) := of_decide_eq_true as_
    obtain ⟨ad601, A601_0, c601_0, e601, hx601_0, hl601_0, hi601_0⟩ := at_L4 HR0.out x11_1 p601 q601
    cases e601
    replace hx601_0 := (HB.out.cell (World.block_lt_of_cell? w _ hx601_0)).trans hx601_0
    have HR601_0 := Aside0.mk hi601_0
    have HC601_0 := Aside0.mk hl601_0
    clear hi601_0 hl601_0
    replace p601 := eq_true p601
    replace q601 := eq_true q601
    go_wp2
    go_roundg k1
    case measure => have := HK1.out; omega
    case rel => exact ⟨(wrap64 (x3_1 + ((rd_L4 l0 x11_1).length : Int))), (wrap64 (x11_1 + 1)), e1_, e1_, H', ⟨by have := HK1.out; omega⟩, ⟨bw_ HB⟩⟩
   ·replace H := bi_ H; obtain ⟨t602, A6, H⟩ := H
    have H' := Aside0.mk H
    clear H
    go_wp2_with (first | ((with_reducible refine gk_ 127 ?_); refine gl_ 24 Try.func127 #[.slice none 0 0, .int .i64 x3_1] ?_; (refine (slices_Grow_string_string.calls _ _ ([] : List ByteArray) x3_1 t602 _ ?side1 ?side2 A6.out).mono ?_); (case side1 => exact Kd.C_nil _ _); (case side2 => exact Nat.le_refl _); rintro e w7 ⟨v603, rfl, ho0, hb⟩; refine ⟨_, rfl, ?_⟩; have HO604 := Aside0.mk (Kd.R_lower ho0 (sz_ HB)); replace HB := ss_ HB hb; clear hb ho0))
    go_loopg [6, 27] k1 (fun kq v6 v27 w' => ∃ (x6_2 : List ByteArray) (x27_2 : Int), v27 = .int .i64 x27_2 ∧ Aside0 (slices_Concat_string_string.l1 kq x6_2 l0 (l0.length : Int) x27_2 = some r) ∧ Aside0 (kq ≤ k1) ∧ Aside0 (Kd.R Kd.string 9 w' w.heap.size (fun _ => True) v6 x6_2) ∧ Aside0 (Below w.heap.size w w'))
    case atStart => exact ⟨(t602), (0), e1_, H', ⟨Nat.le_refl _⟩, ⟨kr_ HO604.out⟩, ⟨bw_ HB⟩⟩
    case round =>
     clear H'
     try clear c1
     try clear c2b0
     obtain ⟨x6_2, x27_2, rfl, HA, HK2, HO_6, HB⟩ := hrel
     cases gk with
     | zero => exact absurd HA.out (by simp [slices_Concat_string_string.l1])
     | succ k2 =>
      have H := HA.out
      clear HA
      simp only [slices_Concat_string_string.l1] at H
      replace H := itd_ H; obtain ⟨c8b0, H⟩ | ⟨c8b0, H⟩ := H
      ·replace H := ipd_ H; obtain ⟨c9b0, H⟩ := H
       replace H := ipd_ H; obtain ⟨c10b0, H⟩ := H
       replace H := ip_ H; obtain ⟨c11, H⟩ := H
       have LMc11 := Aside0.mk c11
       clear c11
       obtain ⟨y606, hy606⟩ : ∃ y_ : List ByteArray, y_ = (x6_2 ++ (rd_L4 l0 x27_2)) := ⟨_, rfl⟩
       replace H : (slices_Concat_string_string.l1 k2 y606 l0 (l0.length : Int) (wrap64 (x27_2 + 1))) = some r := yh_ hy606 H
       have Ny606 := Aside0.mk hy606
       clear hy606
       have H' := Aside0.mk H
       clear H
       have p605 : 0 ≤ (x27_2 : Int) := of_decide_eq_true as_
       have q605 : x27_2 < (l0.length : Int) := of_decide_eq_true as_
       obtain ⟨ad605, A605_0, c605_0, e605, hx605_0, hl605_0, hi605_0⟩ := at_L4 HR0.out x27_2 p605 q605
       cases e605
       replace hx605_0 := (HB.out.cell (World.block_lt_of_cell? w _ hx605_0)).trans hx605_0
       have HR605_0 := Aside0.mk hi605_0
       have HC605_0 := Aside0.mk hl605_0
       clear hi605_0 hl605_0
       replace p605 := eq_true p605
       replace q605 := eq_true q605
       go_wp2_with (first | ((with_reducible refine gate_builtin (b := .append) (xs := #[.tmp 31, .tmp 32]) rfl ?_); at_builtin; refine Kd.R_append_rows Kd.string (w0 := w) w.heap.size rfl (.tmp 31) (.tmp 32) 24 9 (.string ⟨#[]⟩) 16 rfl Try.underlying24 info9 rfl (by decide) (by omega) u6 x6_2 (rd_L4 l0 x27_2) _ _ _ (fun _ => True) (fun _ => False) rfl rfl ?aO ?aR (fun _ _ h => h) (fun _ h => h.elim) ?aF ?aB ?aS ?aL ?_; (case aR => exact cb_ HR605_0 HB); (case aB => exact (bw_ HB)); (case aF => exact (fun _ _ => trivial)); (case aO => exact (kr_ HO_6.out)); (case aS => exact (sz_ HB)); (case aL => have := LMc11.out; omega); intro v607 w12 ho hb hg hat; rw [← Ny606.out] at ho; replace HB := Aside0.mk hb; have HO608 := Aside0.mk ho; clear HO_6; clear ho hb hg hat))
       go_roundg k2
       case measure => have := HK1.out; have := HK2.out; omega
       case rel => exact ⟨(y606), (wrap64 (x27_2 + 1)), e1_, H', ⟨by have := HK1.out; have := HK2.out; omega⟩, ⟨kr_ HO608.out⟩, ⟨bw_ HB⟩⟩
      ·obtain rfl := Option.some.inj H
       go_wp2
       go_ret
       exact ⟨_, e2_, kr_ HO_6.out, bw_ HB⟩
end Go.Proofs.Ytjnnglphdaemaaa.Q
end

section
/- slices.Concat of two lists of texts: the one behind the other. -/
namespace Go.Proofs.Ytjnnglphdaemaaa.Q
open Go.RowKit Go.Proofs.Ytjnnglphdaemaaa.B Go.Proofs.YtjnnglphdaemaaaW.PrintWords
theorem one64 : wrap64 (0 + 1) = 1 := by rw [w64 (by omega) (by omega)]; rfl
theorem two64 : wrap64 (1 + 1) = 2 := by rw [w64 (by omega) (by omega)]; rfl
theorem concat_l1 (a b : List ByteArray) (h : a.length + b.length ≤ 1000000000) : Ev (fun k => slices_Concat_string_string.l1 k [] [a, b] 2 0) (a ++ b) := by
 have ea : rd_L4 [a, b] 0 = a := rfl
 have eb : rd_L4 [a, b] 1 = b := rfl
 refine Ev.step (fun k => by simp only [slices_Concat_string_string.l1]; rfl) ?_
 rw [ea, one64]
 refine Ev.pos (by omega) (Ev.pos (by omega) (Ev.pos (by simp) (Ev.pos (by simp; omega) ?_)))
 refine Ev.step (fun k => by simp only [slices_Concat_string_string.l1]; rfl) ?_
 rw [eb, two64]
 refine Ev.pos (by omega) (Ev.pos (by omega) (Ev.pos (by simp) (Ev.pos (by simp; omega) ?_)))
 refine Ev.step (fun k => by simp only [slices_Concat_string_string.l1]; rfl) ?_
 exact Ev.neg (by omega) (Ev.one (Ev.now _) rfl)
theorem concat_ev (a b : List ByteArray) (h : a.length + b.length ≤ 1000000000) (h1 : 1 ≤ a.length + b.length) : Ev (fun k => slices_Concat_string_string.f k [a, b]) (a ++ b) := by
 have ea : rd_L4 [a, b] 0 = a := rfl
 have eb : rd_L4 [a, b] 1 = b := rfl
 have e2 : (([a, b] : List (List ByteArray)).length : Int) = 2 := rfl
 have hg : slices_Grow_string_string.f [] ((a.length : Int) + (b.length : Int)) = some [] := by
  unfold slices_Grow_string_string.f
  rw [if_pos ⟨rfl, by omega, by omega⟩]
 unfold slices_Concat_string_string.f
 refine Ev.step (fun k => by simp only [slices_Concat_string_string.l0]; rfl) ?_
 rw [ea, e2, w64 (x := 0 + (a.length : Int)) (by omega) (by omega), one64, Int.zero_add]
 refine Ev.pos (by omega) (Ev.pos (by omega) (Ev.pos (by omega) (Ev.neg (by omega) ?_)))
 refine Ev.step (fun k => by simp only [slices_Concat_string_string.l0]; rfl) ?_
 rw [eb, e2, w64 (x := (a.length : Int) + (b.length : Int)) (by omega) (by omega), two64]
 refine Ev.pos (by omega) (Ev.pos (by omega) (Ev.pos (by omega) (Ev.neg (by omega) ?_)))
 refine Ev.step (fun k => by simp only [slices_Concat_string_string.l0]; rfl) ?_
 rw [e2]
 exact Ev.neg (by omega) (Ev.bind (Ev.const hg) (concat_l1 a b h))
end Go.Proofs.Ytjnnglphdaemaaa.Q
end

section
/- slices.Clone of texts: the same list in new memory (bounds: what append takes). -/
namespace Go.Proofs.Ytjnnglphdaemaaa.Q
open Go.RowKit Go.Proofs.YtjnnglphdaemaaaW.PrintWords Go.Proofs.YtjnnglphdaemaaaW.PrintLast Go.Proofs.YtjnnglphdaemaaaW.PrintMore
set_option linter.unusedVariables false
set_option linter.unusedSimpArgs false
def slices_Clone_string_string.f (l0 : List ByteArray) : Option (List ByteArray) := if l0.length ≤ 8796093022208 then some l0 else none
theorem slices_Clone_string_string.info : (Try.prog.info? 9).map (fun i => (i.zero, i.size, i.bytes)) = some (some (.string ⟨#[]⟩), 1, 16) := by kernel_rfl
set_option maxHeartbeats 1000000 in
set_option maxRecDepth 100000 in
theorem slices_Clone_string_string.calls (A0 : Option Addr) (c0 : Nat) (l0 : List ByteArray) (r : List ByteArray) (w : World) (hr0 : Kd.C Kd.string w A0 l0.length l0) (hc0 : l0.length ≤ c0) (h : slices_Clone_string_string.f l0 = some r) :
  Calls Try.prog 105 #[.slice A0 l0.length c0] w fun e w' => ∃ v0_ : Value, e = .returned (v0_) ∧ Kd.R Kd.string 9 w' w.heap.size (fun _ => True) v0_ r ∧ Below w.heap.size w w' := by
 unfold slices_Clone_string_string.f at h
 by_cases hl : l0.length ≤ 8796093022208
 ·rw [if_pos hl] at h
  obtain rfl := Option.some.inj h
  have LM := Aside0.mk hl
  have HR0 := Aside0.mk hr0
  have HC0 := Aside0.mk hc0
  have hn := fun W : World => Lib.run_eql_slice_nil (P := Try.prog) W 24 9 A0 l0.length c0 0 0 Try.underlying24
  clear hl h hc0
  cases A0 with
  | none =>
   have h0 : l0 = [] := by
    rcases Nat.eq_zero_or_pos l0.length with hz | hz
    ·exact List.eq_nil_of_length_eq_zero hz
    ·obtain ⟨ad, he, _⟩ := hr0.2.2 hz
     cases he
   subst h0
   clear hr0 hn
   have hn2 := fun W : World => Lib.run_eql_slice_nil (P := Try.prog) W 24 9 none 0 c0 0 0 Try.underlying24
   go_enter Try.func105, Try.ntmps105
   go_wp2
   go_ret
   exact ⟨_, rfl, Kd.R_nil _ _ _ _ _, Below.refl _ _⟩
  | some ad =>
   clear hr0
   go_enter Try.func105, Try.ntmps105
   go_wp2_with (first | ((with_reducible refine gate_dst (N := 5) rfl ?_); refine Kd.R_lit Kd.string _ 9 ?hg (N := 5) ?hd (w0 := w) (xs := ([] : List ByteArray)) (inner := []) (ok := fun _ => True) (okp := fun _ => True) ?hr ?hp (fun _ hk => hk) trivial (Below.refl _ _) (Nat.le_refl _) (by simp) ?_; (case hd => rfl); (case hg => rfl); (case hr => first | (go_simp; done) | (go_simp; rfl)); (case hp => exact (Reps.none _ _)); intro v1 w4 ho5 hb hg_ hnew_; clear hg_ hnew_; have HO := Aside0.mk ho5; have HB := Aside0.mk hb; clear ho5 hb) | ((with_reducible refine gate_builtin (b := .append) (xs := #[.tmp 5, .tmp 6]) rfl ?_); at_builtin; refine Kd.R_append_rows Kd.string (w0 := w) w.heap.size rfl (.tmp 5) (.tmp 6) 24 9 (.string ⟨#[]⟩) 16 rfl Try.underlying24 slices_Clone_string_string.info rfl (by decide) (by omega) v1 [] l0 _ _ _ (fun _ => True) (fun _ => False) rfl rfl ?aO ?aR (fun _ _ h => h) (fun _ h => h.elim) ?aF ?aB ?aS ?aL ?_; (case aR => exact Kd.C_below HR0.out HB.out); (case aB => exact HB.out); (case aF => exact (fun _ _ => trivial)); (case aO => exact HO.out); (case aS => exact HB.out.size); (case aL => have := LM.out; simp only [List.length_nil]; omega); intro v2 w6 ho hb hg hat; have HO2 := Aside0.mk ho; have HB2 := Aside0.mk hb; clear ho hb hg hat))
   go_ret
   exact ⟨_, rfl, by simpa using HO2.out, HB2.out⟩
 ·rw [if_neg hl] at h
  cases h
end Go.Proofs.Ytjnnglphdaemaaa.Q
end

section
-- Written by a program of this session (wip/tools/pp.sh) over the print of the kit.
namespace Go.Proofs.Ytjnnglphdaemaaa.Q
open Go.RowKit Go.Proofs.YtjnnglphdaemaaaW.PrintWords Go.Proofs.YtjnnglphdaemaaaW.PrintLast Go.Proofs.YtjnnglphdaemaaaW.PrintMore
attribute [local go_sem] max2_int min2_int max_two min_two max_three min_three max_four min_four   -- for this text's walks alone
set_option linter.unusedVariables false
set_option linter.unusedSimpArgs false
def impl_copyLog.f (l0_0 : List ByteArray) (a0_1 : Int) (a0_2 : ByteArray) : Option (List ByteArray × Int × ByteArray) := (slices_Clone_string_string.f l0_0).bind fun t603 => (some (t603, a0_1, a0_2))
set_option maxHeartbeats 8000000 in
set_option maxRecDepth 100000 in
theorem impl_copyLog.calls (A0_0 : Option Addr) (c0_0 : Nat) (l0_0 : List ByteArray) (a0_1 : Int) (a0_2 : ByteArray) (r1 : List ByteArray) (r2 : Int) (r3 : ByteArray) (w : World) (hr0_0 : Kd.C Kd.string w A0_0 l0_0.length l0_0) (hc0_0 : l0_0.length ≤ c0_0) (h : impl_copyLog.f l0_0 a0_1 a0_2 = some (r1, r2, r3)) :
  Calls Try.prog 63 #[.agg #[.slice A0_0 l0_0.length c0_0, .int .i64 a0_1, .string a0_2]] w fun e w' => ∃ v0_ : Value, e = .returned (.agg #[v0_, .int .i64 r2, .string r3]) ∧ Kd.R Kd.string 9 w' w.heap.size (fun _ => True) v0_ r1 ∧ Below w.heap.size w w' := by
 have hu31 := Try.underlying31
 have HR0_0 := Aside0.mk hr0_0
 have HC0_0 := Aside0.mk hc0_0
 clear hr0_0 hc0_0
 have HB := Aside0.mk (Below.refl w.heap.size w)
 have H : ((slices_Clone_string_string.f l0_0).bind fun t603 => (some (t603, a0_1, a0_2))) = some (r1, r2, r3) := h
 clear h
 replace H := bi_ H; obtain ⟨t603, A2, H⟩ := H
 replace H := so3_ H; obtain ⟨rfl, rfl, rfl⟩ := H
 go_enter Try.func63, Try.ntmps63
 go_wp2_with (first | ((with_reducible refine gd_ 1 ?_); refine bx_ 1 31 #[.slice A0_0 l0_0.length c0_0, .int .i64 a0_1, .string a0_2] ?_; intro gb601 hg w3 hbox hb; have BK601 := Aside0.mk hbox; have GW601 := gg_ hg HB; have GE601 := GW601; replace HB := ss_ HB hb; clear hb hbox hg) | ((with_reducible refine gd_ 2 ?_); refine bx_ 2 31 #[.slice none 0 0, .int .i64 0, .string (⟨#[]⟩ : ByteArray)] ?_; intro gb602 hg w4 hbox hb; have BK602 := Aside0.mk hbox; have GW602 := gg_ hg HB; have GE602 := GW602; replace HB := ss_ HB hb; have NB601_602 := nla_ hg BK601; have NB602_601 := nga_ hg BK601; replace BK601 := kl_ BK601 hb; clear hb hbox hg; have hnb5 := NB601_602.out; have hnc5 := NB602_601.out; have hz6 := cz3_ BK601) | ((with_reducible refine gq_ 105 5 ?_); refine gc_ 5 Try.func105 (slices_Clone_string_string.calls _ _ l0_0 t603 _ (cb_ HR0_0 HB) HC0_0.out A2.out) ?_; rintro e w7 ⟨v604, rfl, ho0, hb⟩; refine ⟨_, rfl, ?_⟩; have HO605 := Aside0.mk (Kd.R_lower ho0 (sz_ HB)); replace BK601 := kl_ BK601 hb; replace BK602 := kl_ BK602 hb; replace HB := ss_ HB hb; clear hb ho0; obtain ⟨Ao8, co8, eo8⟩ := Kd.R_slice HO605.out; subst eo8; have hz9 := cz3_ BK601; have hz10 := cz3_ BK602))
 refine bodyPost_ret (results_cell_row rfl _ _ gb602 31 #[.slice Ao8 t603.length co8, .int .i64 a0_1, .string a0_2] (0, 0) _ rfl (by exact kq_ BK602) Try.underlying31 rfl (by kernel_rfl)) rfl ?_
 exact ⟨_, e2_, by (with_reducible repeat (first | apply Kd.R_alloc | apply Kd.R_drewN | apply Kd.R_drew)); exact Kd.R_mono (Kd.R_far (p := ⟨gb602, 2, none⟩) (Kd.R_far (p := ⟨gb602, 1, none⟩) (Kd.R_far (p := ⟨gb602, 0, none⟩) (Kd.R_far (p := ⟨gb601, 0, none⟩) (Kd.R_types (Kd.R_types HO605.out BK601.out (by decide)) BK602.out (by decide)) (fun _ hk => hk.1.2) (.slice Ao8 t603.length co8)) (fun _ hk => hk.2) (.slice Ao8 t603.length co8)) (fun _ hk => hk.2) (.int .i64 a0_1)) (fun _ hk => hk.2) (.string a0_2)) (fun _ hk => trivial), bw_ HB⟩
end Go.Proofs.Ytjnnglphdaemaaa.Q
end

section
-- Written by a program of this session (wip/tools/pp.sh) over the print of the kit.
namespace Go.Proofs.Ytjnnglphdaemaaa.Q
open Go.RowKit Go.Proofs.YtjnnglphdaemaaaW.PrintWords Go.Proofs.YtjnnglphdaemaaaW.PrintLast Go.Proofs.YtjnnglphdaemaaaW.PrintMore
attribute [local go_sem] max2_int min2_int max_two min_two max_three min_three max_four min_four   -- for this text's walks alone
set_option linter.unusedVariables false
set_option linter.unusedSimpArgs false
def spec_l11Copy.f (l0_0 : List ByteArray) (a0_1 : Int) (a0_2 : ByteArray) : Option (List ByteArray × Int × ByteArray) := (some (([] : List ByteArray) : List ByteArray)).bind fun y603 => (if y603.length + l0_0.length < 8796093022208 then (some ((y603 ++ l0_0), a0_1, a0_2)) else (none))
def spec_l11Copy.T1 : Bool × List (List Nat × List Nat) := (true, [([], []), ([], []), ([1], [1]), ([0, 2], [0, 2]), ([], []), ([4], [4]), ([3, 5], [3, 5]), ([6, 3, 0, 1, 2, 3, 4, 5, 6], [6])])
def spec_l11Copy.B1 : List Nat := [0, 0, 2, 7, 0, 16, 63, 127]
theorem spec_l11Copy.tab1 : rtab .any (opsOf Try.f76 1) = spec_l11Copy.T1 := by kernel_rfl
theorem spec_l11Copy.bits1 : waitsOk spec_l11Copy.T1.2 spec_l11Copy.B1 = true := by kernel_rfl
set_option maxHeartbeats 8000000 in
set_option maxRecDepth 100000 in
theorem spec_l11Copy.calls (A0_0 : Option Addr) (c0_0 : Nat) (l0_0 : List ByteArray) (a0_1 : Int) (a0_2 : ByteArray) (r1 : List ByteArray) (r2 : Int) (r3 : ByteArray) (w : World) (hr0_0 : Kd.C Kd.string w A0_0 l0_0.length l0_0) (hc0_0 : l0_0.length ≤ c0_0) (h : spec_l11Copy.f l0_0 a0_1 a0_2 = some (r1, r2, r3)) :
  Calls Try.prog 76 #[.agg #[.slice A0_0 l0_0.length c0_0, .int .i64 a0_1, .string a0_2]] w fun e w' => ∃ v0_ : Value, e = .returned (.agg #[v0_, .int .i64 r2, .string r3]) ∧ Kd.R Kd.string 9 w' w.heap.size (fun _ => True) v0_ r1 ∧ Below w.heap.size w w' := by
 have hu31 := Try.underlying31
 have hu28 := Try.underlying28
 have HR0_0 := Aside0.mk hr0_0
 have HC0_0 := Aside0.mk hc0_0
 clear hr0_0 hc0_0
 have HB := Aside0.mk (Below.refl w.heap.size w)
 have H : ((some (([] : List ByteArray) : List ByteArray)).bind fun y603 => (if y603.length + l0_0.length < 8796093022208 then (some ((y603 ++ l0_0), a0_1, a0_2)) else (none))) = some (r1, r2, r3) := h
 clear h
 obtain ⟨y603, Ny603, H⟩ := sb_ (([] : List ByteArray)) H
 replace H := ip_ H; obtain ⟨c2, H⟩ := H
 have LMc2 := Aside0.mk c2
 clear c2
 obtain ⟨y606, hy606⟩ : ∃ y_ : List ByteArray, y_ = (y603 ++ l0_0) := ⟨_, rfl⟩
 replace H : (some (y606, a0_1, a0_2)) = some (r1, r2, r3) := yh_ hy606 H
 have Ny606 := Aside0.mk hy606
 clear hy606
 replace H := so3_ H; obtain ⟨rfl, rfl, rfl⟩ := H
 go_enter Try.func76, Try.ntmps76
 try go_wp2_with (first | ((with_reducible refine gd_ 1 ?_); refine bx_ 1 31 #[.slice A0_0 l0_0.length c0_0, .int .i64 a0_1, .string a0_2] ?_; intro gb601 hg w3 hbox hb; have BK601 := Aside0.mk hbox; have GW601 := gg_ hg HB; have GE601 := GW601; replace HB := ss_ HB hb; clear hb hbox hg) | ((with_reducible refine gd_ 2 ?_); refine bx_ 2 31 #[.slice none 0 0, .int .i64 0, .string (⟨#[]⟩ : ByteArray)] ?_; intro gb602 hg w4 hbox hb; have BK602 := Aside0.mk hbox; have GW602 := gg_ hg HB; have GE602 := GW602; replace HB := ss_ HB hb; have NB601_602 := nla_ hg BK601; have NB602_601 := nga_ hg BK601; replace BK601 := kl_ BK601 hb; clear hb hbox hg))
 replace BK601 := Aside0.mk (blk_drew BK601.out)
 replace BK602 := Aside0.mk (blk_drew BK602.out)
 replace HB := Aside0.mk (below_drew1 HB.out)
 refine start_ (n := 8) (S := fun w' => w'.cell? ⟨gb601, 0, none⟩ = some (.slice A0_0 l0_0.length c0_0) ∧ w'.cell? ⟨gb601, 1, none⟩ = some (.int .i64 a0_1) ∧ w'.cell? ⟨gb601, 2, none⟩ = some (.string a0_2)) (ds := []) (lz_ 8 0) (by kernel_rfl) rfl rfl ⟨bc0_ BK601.out, bc1_ BK601.out, bc2_ BK601.out⟩ (fun hHeld => ?_); refine with_tabW spec_l11Copy.tab1 spec_l11Copy.bits1 (fun HT_ HW_ => ?_)
 generalize w4.drew = w5 at BK601 BK602 HB hHeld ⊢
 refine pt_ 1 4 2 ?_
 refine pt_ 4 7 18 ?_
 refine tt_ 2 5 22 ?_
 refine tt_ 5 8 54 ?_
 refine one_ (i := 0) (N := some 3) (lz_ 8 55) rfl rfl (one_of HT_.out (by kernel_rfl)) (by decide) (fun K hK => ?_)
 refine Kd.R_lit_step Kd.string _ 9 ?hg (N := 3) ?hd (xs := ([] : List ByteArray)) (inner := []) (ok := fun _ => True) (okp := fun _ => True) ?hr ?hp (fun _ hk => hk) trivial (Below.refl _ _) (Nat.le_refl _) (by simp) ?_; (case hd => rfl); (case hg => rfl); (case hr => first | (go_simp; done) | (go_simp; rfl)); (case hp => exact (Reps.none _ _))
 intro v604 w6 ho7 hb hg_ hnew_
 clear hg_ hnew_
 (first | rw [← Ny603.out] at ho7 | (simp only [Int.reduceToNat] at ho7; rw [← Ny603.out] at ho7))
 have HO605 := Aside0.mk (Kd.R_lower ho7 (sz_ HB))
 replace BK601 := kl_ BK601 hb
 replace BK602 := kl_ BK602 hb
 replace HB := ss_ HB hb
 clear hb ho7
 refine hK.out _ _ ⟨bc0_ BK601.out, bc1_ BK601.out, bc2_ BK601.out⟩ (fun hHeld => ?_)
 clear hK K
 refine no_ 3 ?_
 refine one_ (i := 3) (N := some 6) (lz_ 8 63) rfl rfl (one_of HT_.out (by kernel_rfl)) (by decide) (fun K hK => ?_)
 refine Kd.R_append_rows_step Kd.string (w0 := w) w.heap.size (by rfl) (.tmp 3) (.tmp 5) 24 9 (.string ⟨#[]⟩) 16 rfl Try.underlying24 info9 rfl (by decide) (by omega) v604 y603 l0_0 _ _ _ (fun _ => True) (fun _ => False) rfl rfl ?aO ?aR (fun _ _ h => h) (fun _ h => h.elim) ?aF ?aB ?aS ?aL ?_
 (case aR => exact cb_ HR0_0 HB)
 (case aB => exact (bw_ HB))
 (case aF => exact (fun _ _ => trivial))
 (case aO => exact (kr_ HO605.out))
 (case aS => exact (sz_ HB))
 (case aL => have := LMc2.out; omega)
 intro v607 w8 ho hb hg hat
 rw [← Ny606.out] at ho
 replace BK601 := kg_ BK601 HO605 hg
 replace BK602 := kg_ BK602 HO605 hg
 replace HB := Aside0.mk hb
 have HO608 := Aside0.mk ho
 clear HO605
 clear ho hb hg hat
 obtain ⟨Ao9, co9, eo9⟩ := Kd.R_slice HO608.out
 (first | subst eo9 | (injection eo9 with f1_ f2_ f3_; have f4_ := f1_.symm; have f5_ := f3_.symm; clear f1_ f2_ f3_; subst f4_; subst f5_))
 refine hK.out _ _ ⟨bc0_ BK601.out, bc1_ BK601.out, bc2_ BK601.out⟩ (fun hHeld => ?_)
 clear hK K
 refine no_ 6 ?_
 refine pt_ 6 9 127 ?_
 refine one_ (i := 7) (N := none) (lz_ 8 255) rfl rfl (one_of HT_.out (by kernel_rfl)) (by decide) (fun K hK => ?_)
 have hs10 := bc0_ BK602.out
 have hfs10 := blk_frozen BK602.out 0
 have hns10_0 := NB601_602.out
 have hms10_0 := NB602_601.out
 have hs11 := bc1_ BK602.out
 have hfs11 := blk_frozen BK602.out 1
 have hns11_0 := NB601_602.out
 have hms11_0 := NB602_601.out
 have hs12 := bc2_ BK602.out
 have hfs12 := blk_frozen BK602.out 2
 have hns12_0 := NB601_602.out
 have hms12_0 := NB602_601.out
 refine skip_ (w1 := ?_) (by rfl) rfl ?_ ?_
 rotate_left
 ·go_simp
  rfl
 refine hK.out _ _ ⟨((cell_far (p := ⟨gb602, _, none⟩) NB601_602.out _).trans (((cell_far (p := ⟨gb602, _, none⟩) NB601_602.out _).trans (((cell_far (p := ⟨gb602, _, none⟩) NB601_602.out _).trans (hHeld.1)))))), ((cell_far (p := ⟨gb602, _, none⟩) NB601_602.out _).trans (((cell_far (p := ⟨gb602, _, none⟩) NB601_602.out _).trans (((cell_far (p := ⟨gb602, _, none⟩) NB601_602.out _).trans (hHeld.2.1)))))), ((cell_far (p := ⟨gb602, _, none⟩) NB601_602.out _).trans (((cell_far (p := ⟨gb602, _, none⟩) NB601_602.out _).trans (((cell_far (p := ⟨gb602, _, none⟩) NB601_602.out _).trans (hHeld.2.2))))))⟩ (fun hHeld => ?_)
 clear hK K
 refine done_ (done_of HT_.out (by kernel_rfl)) ?_
 try go_wp2
 refine bodyPost_ret (results_cell_row rfl _ _ gb602 31 #[.slice Ao9 y606.length co9, .int .i64 a0_1, .string a0_2] (0, 0) _ rfl (by exact kq_ BK602) Try.underlying31 rfl (by kernel_rfl)) rfl ?_
 exact ⟨_, e2_, by (with_reducible repeat (first | apply Kd.R_alloc | apply Kd.R_drewN | apply Kd.R_drew)); exact Kd.R_mono (Kd.R_far (p := ⟨gb602, 2, none⟩) (Kd.R_far (p := ⟨gb602, 1, none⟩) (Kd.R_far (p := ⟨gb602, 0, none⟩) (Kd.R_types HO608.out BK602.out (by decide)) (fun _ hk => hk.2) (.slice Ao9 y606.length co9)) (fun _ hk => hk.2) (.int .i64 a0_1)) (fun _ hk => hk.2) (.string a0_2)) (fun _ hk => trivial), bw_ HB⟩
end Go.Proofs.Ytjnnglphdaemaaa.Q
end

section
/- What copies of logs return, the program's and the reference's. -/
namespace Go.Proofs.Ytjnnglphdaemaaa.Q
open Go.RowKit Go.Proofs.Ytjnnglphdaemaaa.B Go.Proofs.YtjnnglphdaemaaaW.PrintWords
theorem impl_copyLog_eq (l : List ByteArray) (n : Int) (s : ByteArray) (hl : l.length < 8796093022208) : impl_copyLog.f l n s = some (l, n, s) := by
 unfold impl_copyLog.f slices_Clone_string_string.f
 rw [if_pos (by omega)]
 rfl
theorem spec_l11Copy_eq (l : List ByteArray) (n : Int) (s : ByteArray) (hl : l.length < 8796093022208) : spec_l11Copy.f l n s = some (l, n, s) := by
 unfold spec_l11Copy.f
 simp only [Option.bind_some, List.length_nil, List.nil_append]
 rw [if_pos (by omega)]
end Go.Proofs.Ytjnnglphdaemaaa.Q
end

section
-- Written by a program of this session (wip/tools/pp.sh) over the print of the kit.
namespace Go.Proofs.Ytjnnglphdaemaaa.Q
open Go.RowKit Go.Proofs.YtjnnglphdaemaaaW.PrintWords Go.Proofs.YtjnnglphdaemaaaW.PrintLast Go.Proofs.YtjnnglphdaemaaaW.PrintMore
attribute [local go_sem] max2_int min2_int max_two min_two max_three min_three max_four min_four   -- for this text's walks alone
set_option linter.unusedVariables false
set_option linter.unusedSimpArgs false
attribute [local go_sem high] eqA28
def spec_Extend.j0 : Nat → List (S28) → List ByteArray → List ByteArray → Bool → Int → ByteArray → List ByteArray → Int → ByteArray → Option (List ByteArray × Int × ByteArray × Int)
 | 0, _, _, _, _, _, _, _, _, _ => none
 | k + 1, x1, x3, x11, x20, x603000, x603001, x610000, x610001, x610002 => if x20 = true then (some (x610000, x610001, x610002, 1)) else ((spec_IsSigned.f k x1 x603000 x603001).bind fun t621 => (if t621 = true then (if (x3.length : Int) = 0 then (some (x610000, x610001, x610002, 3)) else ((spec_HeadOf.f k x11).bind fun bt622 => (if (!(x603000 == bt622.1) || (!(x603001.toList == bt622.2.toList))) = true then (some (x610000, x610001, x610002, 4)) else (some (x11, x603000, x603001, 0))))) else (some (x610000, x610001, x610002, 2))))
def spec_Extend.f (k : Nat) (l0_0 : List ByteArray) (a0_1 : Int) (a0_2 : ByteArray) (l1 : List (S28)) (a2_0 : Int) (a2_1 : ByteArray) (l3 : List ByteArray) : Option (List ByteArray × Int × ByteArray × Int) := (spec_l11Copy.f l0_0 a0_1 a0_2).bind fun bt604 => ((some (([] : List ByteArray) : List ByteArray)).bind fun y610 => (if y610.length + l0_0.length < 8796093022208 then ((some (y610 ++ l0_0 : List ByteArray)).bind fun y613 => (if y613.length + l3.length < 8796093022208 then ((some (y613 ++ l3 : List ByteArray)).bind fun y616 => ((spec_LogOk.f k l0_0 a0_1 a0_2).bind fun t619 => (if t619 = true then ((spec_HeadOk.f a2_0 a2_1).bind fun t620 => (if t620 = true then (spec_Extend.j0 k l1 l3 y616 (a2_0 != (y616.length : Int)) a2_0 a2_1 bt604.1 bt604.2.1 bt604.2.2) else (spec_Extend.j0 k l1 l3 y616 true a2_0 a2_1 bt604.1 bt604.2.1 bt604.2.2))) else (spec_Extend.j0 k l1 l3 y616 true a2_0 a2_1 bt604.1 bt604.2.1 bt604.2.2)))) else (none))) else (none)))
set_option maxHeartbeats 8000000 in
set_option maxRecDepth 100000 in
theorem spec_Extend.calls (k : Nat) (A0_0 : Option Addr) (c0_0 : Nat) (l0_0 : List ByteArray) (a0_1 : Int) (a0_2 : ByteArray) (A1 : Option Addr) (c1 : Nat) (l1 : List (S28)) (a2_0 : Int) (a2_1 : ByteArray) (A3 : Option Addr) (c3 : Nat) (l3 : List ByteArray) (r1 : List ByteArray) (r2 : Int) (r3 : ByteArray) (r4 : Int) (w : World) (hr0_0 : Kd.C Kd.string w A0_0 l0_0.length l0_0) (hc0_0 : l0_0.length ≤ c0_0) (hr1 : Kd.C k28 w A1 l1.length l1) (hc1 : l1.length ≤ c1) (hr3 : Kd.C Kd.string w A3 l3.length l3) (hc3 : l3.length ≤ c3) (h : spec_Extend.f k l0_0 a0_1 a0_2 l1 a2_0 a2_1 l3 = some (r1, r2, r3, r4)) :
  Calls Try.prog 21 #[.agg #[.slice A0_0 l0_0.length c0_0, .int .i64 a0_1, .string a0_2], .slice A1 l1.length c1, .agg #[.int .i64 a2_0, .string a2_1], .slice A3 l3.length c3] w fun e w' => ∃ v0_ : Value, e = .returned (.tuple #[.agg #[v0_, .int .i64 r2, .string r3], .int .i64 r4]) ∧ Kd.R Kd.string 9 w' w.heap.size (fun _ => True) v0_ r1 ∧ Below w.heap.size w w' := by
 have hu31 := Try.underlying31
 have hu28 := Try.underlying28
 have HR0_0 := Aside0.mk hr0_0
 have HC0_0 := Aside0.mk hc0_0
 clear hr0_0 hc0_0
 have HR1 := Aside0.mk hr1
 have HC1 := Aside0.mk hc1
 clear hr1 hc1
 have HR3 := Aside0.mk hr3
 have HC3 := Aside0.mk hc3
 clear hr3 hc3
 have HB := Aside0.mk (Below.refl w.heap.size w)
 have H : ((spec_l11Copy.f l0_0 a0_1 a0_2).bind fun bt604 => ((some (([] : List ByteArray) : List ByteArray)).bind fun y610 => (if y610.length + l0_0.length < 8796093022208 then ((some (y610 ++ l0_0 : List ByteArray)).bind fun y613 => (if y613.length + l3.length < 8796093022208 then ((some (y613 ++ l3 : List ByteArray)).bind fun y616 => ((spec_LogOk.f k l0_0 a0_1 a0_2).bind fun t619 => (if t619 = true then ((spec_HeadOk.f a2_0 a2_1).bind fun t620 => (if t620 = true then (spec_Extend.j0 k l1 l3 y616 (a2_0 != (y616.length : Int)) a2_0 a2_1 bt604.1 bt604.2.1 bt604.2.2) else (spec_Extend.j0 k l1 l3 y616 true a2_0 a2_1 bt604.1 bt604.2.1 bt604.2.2))) else (spec_Extend.j0 k l1 l3 y616 true a2_0 a2_1 bt604.1 bt604.2.1 bt604.2.2)))) else (none))) else (none)))) = some (r1, r2, r3, r4) := h
 clear h
 replace H := bi_ H; obtain ⟨⟨t604, t607, t608⟩, A5, H⟩ := H
 dsimp only at H
 obtain ⟨y610, Ny610, H⟩ := sb_ (([] : List ByteArray)) H
 replace H := ip_ H; obtain ⟨c6, H⟩ := H
 have LMc6 := Aside0.mk c6
 clear c6
 obtain ⟨y613, Ny613, H⟩ := sb_ (y610 ++ l0_0) H
 replace H := ip_ H; obtain ⟨c7, H⟩ := H
 have LMc7 := Aside0.mk c7
 clear c7
 obtain ⟨y616, Ny616, H⟩ := sb_ (y613 ++ l3) H
 have HC8 := Aside0.mk H
 clear H
 go_enter Try.func21, Try.ntmps21
 go_upto_region 3 with (first | ((with_reducible refine gd_ 4 ?_); (try (refine gate_guard (by rfl) ?_; dsimp only)); refine bx_ 4 31 #[.slice A0_0 l0_0.length c0_0, .int .i64 a0_1, .string a0_2] ?_; intro gb601 hg w9 hbox hb; have BK601 := Aside0.mk hbox; have GW601 := gg_ hg HB; have GE601 := GW601; replace HB := ss_ HB hb; clear hb hbox hg) | ((with_reducible refine gd_ 6 ?_); (try (refine gate_guard (by rfl) ?_; dsimp only)); refine bx_ 6 28 #[.int .i64 a2_0, .string a2_1] ?_; intro gb602 hg w10 hbox hb; have BK602 := Aside0.mk hbox; have GW602 := gg_ hg HB; have GE602 := GW602; replace HB := ss_ HB hb; have NB601_602 := nla_ hg BK601; have NB602_601 := nga_ hg BK601; replace BK601 := kl_ BK601 hb; clear hb hbox hg) | ((with_reducible refine gd_ 8 ?_); (try (refine gate_guard (by rfl) ?_; dsimp only)); refine bx_ 8 31 #[.slice none 0 0, .int .i64 0, .string (⟨#[]⟩ : ByteArray)] ?_; intro gb603 hg w11 hbox hb; have BK603 := Aside0.mk hbox; have GW603 := gg_ hg HB; have GE603 := GW603; replace HB := ss_ HB hb; have NB601_603 := nla_ hg BK601; have NB603_601 := nga_ hg BK601; replace BK601 := kl_ BK601 hb; have NB602_603 := nla_ hg BK602; have NB603_602 := nga_ hg BK602; replace BK602 := kl_ BK602 hb; clear hb hbox hg; have hnb12 := NB601_602.out; have hnc12 := NB602_601.out; have hnb13 := NB601_603.out; have hnc13 := NB603_601.out; have hz14 := cz3_ BK601) | ((with_reducible refine gq_ 76 13 ?_); refine gc_ 13 Try.func76 (spec_l11Copy.calls _ _ l0_0 a0_1 a0_2 t604 t607 t608 _ (cb_ HR0_0 HB) HC0_0.out A5.out) ?_; rintro e w15 ⟨v605, rfl, ho0, hb⟩; refine ⟨_, rfl, ?_⟩; have HO606 := Aside0.mk (Kd.R_lower ho0 (sz_ HB)); replace BK601 := kl_ BK601 hb; replace BK602 := kl_ BK602 hb; replace BK603 := kl_ BK603 hb; replace HB := ss_ HB hb; clear hb ho0) | ((with_reducible refine gd_ 10 ?_); (try (refine gate_guard (by rfl) ?_; dsimp only)); refine bx_ 10 31 #[.slice none 0 0, .int .i64 0, .string (⟨#[]⟩ : ByteArray)] ?_; intro gb609 hg w16 hbox hb; replace HO606 := rb_ HO606 hb; have BK609 := Aside0.mk hbox; have GW609 := gg_ hg HB; have GE609 := GW609; replace HB := ss_ HB hb; have NB601_609 := nla_ hg BK601; have NB609_601 := nga_ hg BK601; replace BK601 := kl_ BK601 hb; have NB602_609 := nla_ hg BK602; have NB609_602 := nga_ hg BK602; replace BK602 := kl_ BK602 hb; have NB603_609 := Aside0.mk ((by rw [hg]; exact Nat.ne_of_lt (blk_lt (kb_ BK603.out)) : gb603 ≠ gb609)); have NB609_603 := Aside0.mk ((by rw [hg]; exact Nat.ne_of_gt (blk_lt (kb_ BK603.out)) : gb609 ≠ gb603)); replace BK603 := kl_ BK603 hb; clear hb hbox hg; obtain ⟨Ao17, co17, eo17⟩ := Kd.R_slice HO606.out; subst eo17; have hnb18 := NB609_601.out; have hnc18 := NB601_609.out; have hnb19 := NB609_602.out; have hnc19 := NB602_609.out; have hnb20 := NB609_603.out; have hnc20 := NB603_609.out; have hz21 := cz3_ BK609) | ((with_reducible refine gd_ 14 ?_); (try (refine gate_guard (by rfl) ?_; dsimp only)); refine rl_ Kd.string 9 14 ([] : List ByteArray) [] ?_; intro v611 w22 ho23 hb hg_ hnew_; clear hg_ hnew_; (first | rw [← Ny610.out] at ho23 | (simp only [Int.reduceToNat] at ho23; rw [← Ny610.out] at ho23)); have HO612 := Aside0.mk (Kd.R_lower (Kd.R_new' ho23 (lf_ HO606 BK609)) (sz_ HB)); replace HO606 := ref_ HO606 BK609 ho23 hb; replace BK601 := kp_ BK601 hb; replace BK602 := kp_ BK602 hb; replace BK603 := kp_ BK603 hb; replace BK609 := kp_ BK609 hb; replace HB := ss_ HB hb; clear hb ho23; have hz24 := cz3_ BK601) | ((with_reducible refine gate_builtin (b := .append) (xs := #[.tmp 14, .tmp 16]) rfl ?_); (try (refine gate_guard (by rfl) ?_; dsimp only)); at_builtin; refine Kd.R_append_rows Kd.string (w0 := w) w.heap.size rfl (.tmp 14) (.tmp 16) 24 9 (.string ⟨#[]⟩) 16 rfl Try.underlying24 info9 rfl (by decide) (by omega) v611 y610 l0_0 _ _ _ (fun k_ => some k_ ≠ (.slice Ao17 t604.length co17 : Value).ownBlock) (fun _ => False) rfl rfl ?aO ?aR (fun _ _ h => h) (fun _ h => h.elim) ?aF ?aB ?aS ?aL ?_; (case aR => exact cb_ HR0_0 HB); (case aB => exact (bw_ HB)); (case aF => exact (fun k_ hk => Kd.fresh' (lt_ HO606) k_ hk)); (case aO => exact (kr_ (Kd.R_mono HO612.out (fun _ hk => hk.2)))); (case aS => exact (sz_ HB)); (case aL => have := LMc6.out; omega); intro v614 w25 ho hb hg hat; rw [← Ny613.out] at ho; replace BK601 := kg_ BK601 HO612 hg; replace BK602 := kg_ BK602 HO612 hg; replace BK603 := kg_ BK603 HO612 hg; replace HO606 := Aside0.mk (Kd.R_after (ok := (fun _ => True)) (kr_ HO606.out) hg hat); replace BK609 := kg_ BK609 HO612 hg; replace HB := Aside0.mk hb; have HO615 := Aside0.mk ho; clear HO612; clear ho hb hg hat) | ((with_reducible refine gate_builtin (b := .append) (xs := #[.tmp 17, .tmp 18]) rfl ?_); (try (refine gate_guard (by rfl) ?_; dsimp only)); at_builtin; refine Kd.R_append_rows Kd.string (w0 := w) w.heap.size rfl (.tmp 17) (.tmp 18) 24 9 (.string ⟨#[]⟩) 16 rfl Try.underlying24 info9 rfl (by decide) (by omega) v614 y613 l3 _ _ _ (fun k_ => some k_ ≠ (.slice Ao17 t604.length co17 : Value).ownBlock) (fun _ => False) rfl rfl ?aO ?aR (fun _ _ h => h) (fun _ h => h.elim) ?aF ?aB ?aS ?aL ?_; (case aR => exact cb_ HR3 HB); (case aB => exact (bw_ HB)); (case aF => exact (fun k_ hk => Kd.fresh' (lt_ HO606) k_ hk)); (case aO => exact (kr_ HO615.out)); (case aS => exact (sz_ HB)); (case aL => have := LMc7.out; omega); intro v617 w26 ho hb hg hat; rw [← Ny616.out] at ho; replace BK601 := kg_ BK601 HO615 hg; replace BK602 := kg_ BK602 HO615 hg; replace BK603 := kg_ BK603 HO615 hg; replace HO606 := Aside0.mk (Kd.R_after (ok := (fun _ => True)) (kr_ HO606.out) hg hat); replace BK609 := kg_ BK609 HO615 hg; replace HB := Aside0.mk hb; have HO618 := Aside0.mk ho; clear HO615; clear ho hb hg hat))
 (try simp only [Act.put, List.setIfInBounds_toArray, List.set_cons_zero, List.set_cons_succ])
 go_cut [20] (fun v20 wc => ∃ (kq : Nat) (x20_7 : Bool), v20 = .bool x20_7 ∧ Aside0 (spec_Extend.j0 kq l1 l3 y616 x20_7 a2_0 a2_1 t604 t607 t608 = some (r1, r2, r3, r4)) ∧ Aside0 (kq ≤ k) ∧ Aside0 (Kd.R Kd.string 9 wc w.heap.size (fun k_ => some k_ ≠ ((.slice Ao17 t604.length co17) : Value).ownBlock) v617 y616) ∧ Aside0 (Kd.R Kd.string 9 wc w.heap.size (fun k_ => some k_ ≠ (v617 : Value).ownBlock) (.slice Ao17 t604.length co17) t604) ∧ Aside0 (wc.heap[gb601]? = some (.cells #[(.slice A0_0 l0_0.length c0_0), .int .i64 a0_1, .string a0_2] 31 (0, 0))) ∧ Aside0 (wc.heap[gb602]? = some (.cells #[.int .i64 a2_0, .string a2_1] 28 (0, 0))) ∧ Aside0 (wc.heap[gb603]? = some (.cells #[(.slice none 0 0), .int .i64 0, .string (⟨#[]⟩ : ByteArray)] 31 (0, 0))) ∧ Aside0 (wc.heap[gb609]? = some (.cells #[(.slice Ao17 t604.length co17), .int .i64 t607, .string t608] 31 (0, 0))) ∧ Aside0 (Below w.heap.size w wc))
 case first =>
  have H := HC8.out
  clear HC8
  replace H := bi_ H; obtain ⟨t619, A27, H⟩ := H
  replace H := itb_ H; obtain ⟨rfl, H⟩ | ⟨rfl, H⟩ := H
  ·replace H := bi_ H; obtain ⟨t620, A29, H⟩ := H
   replace H := itb_ H; obtain ⟨rfl, H⟩ | ⟨rfl, H⟩ := H
   ·have H' := Aside0.mk H
    clear H
    have hnb31 := NB601_602.out
    have hnc31 := NB602_601.out
    have hnb32 := NB601_603.out
    have hnc32 := NB603_601.out
    have hnb33 := NB601_609.out
    have hnc33 := NB609_601.out
    have hz34 := cz3_ BK601
    go_wp2_with (first | ((with_reducible refine gq_ 77 22 ?_); refine gc_ 22 Try.func77 (spec_LogOk.calls k _ _ l0_0 a0_1 a0_2 true _ (cb_ HR0_0 HB) HC0_0.out A27.out) ?_; rintro e w35 ⟨rfl, hb⟩; refine ⟨_, rfl, ?_⟩; replace HO606 := rb_ HO606 hb; replace HO618 := rb_ HO618 hb; replace BK601 := kl_ BK601 hb; replace BK602 := kl_ BK602 hb; replace BK603 := kl_ BK603 hb; replace BK609 := kl_ BK609 hb; replace HB := ss_ HB hb; clear hb; have hnb36 := NB602_603.out; have hnc36 := NB603_602.out; have hnb37 := NB602_609.out; have hnc37 := NB609_602.out; have hz38 := cz2_ BK602) | (go_at_call 78; (with_reducible refine (spec_HeadOk.calls a2_0 a2_1 true _ A29.out).mono ?_); rintro e w39 ⟨rfl, hb⟩; replace HO606 := rb_ HO606 hb; replace HO618 := rb_ HO618 hb; replace BK601 := kl_ BK601 hb; replace BK602 := kl_ BK602 hb; replace BK603 := kl_ BK603 hb; replace BK609 := kl_ BK609 hb; replace HB := ss_ HB hb; clear hb; have hz40 := cz2_ BK602; obtain ⟨Ao41, co41, eo41⟩ := Kd.R_slice HO618.out; subst eo41))
    go_meet
    case rel => exact ⟨_, ((a2_0 != (y616.length : Int))), e1_, H', ⟨le_⟩, ⟨kr_ HO618.out⟩, ⟨by (with_reducible repeat (first | apply Kd.R_alloc | apply Kd.R_drewN | apply Kd.R_drew)); exact Kd.R_mono HO606.out (fun _ hk => hk.2)⟩, ⟨kb_ BK601.out⟩, ⟨kb_ BK602.out⟩, ⟨kb_ BK603.out⟩, ⟨kb_ BK609.out⟩, ⟨bw_ HB⟩⟩
   ·have H' := Aside0.mk H
    clear H
    have hnb42 := NB601_602.out
    have hnc42 := NB602_601.out
    have hnb43 := NB601_603.out
    have hnc43 := NB603_601.out
    have hnb44 := NB601_609.out
    have hnc44 := NB609_601.out
    have hz45 := cz3_ BK601
    go_wp2_with (first | ((with_reducible refine gq_ 77 22 ?_); refine gc_ 22 Try.func77 (spec_LogOk.calls k _ _ l0_0 a0_1 a0_2 true _ (cb_ HR0_0 HB) HC0_0.out A27.out) ?_; rintro e w46 ⟨rfl, hb⟩; refine ⟨_, rfl, ?_⟩; replace HO606 := rb_ HO606 hb; replace HO618 := rb_ HO618 hb; replace BK601 := kl_ BK601 hb; replace BK602 := kl_ BK602 hb; replace BK603 := kl_ BK603 hb; replace BK609 := kl_ BK609 hb; replace HB := ss_ HB hb; clear hb; have hnb47 := NB602_603.out; have hnc47 := NB603_602.out; have hnb48 := NB602_609.out; have hnc48 := NB609_602.out; have hz49 := cz2_ BK602) | (go_at_call 78; (with_reducible refine (spec_HeadOk.calls a2_0 a2_1 false _ A29.out).mono ?_); rintro e w50 ⟨rfl, hb⟩; replace HO606 := rb_ HO606 hb; replace HO618 := rb_ HO618 hb; replace BK601 := kl_ BK601 hb; replace BK602 := kl_ BK602 hb; replace BK603 := kl_ BK603 hb; replace BK609 := kl_ BK609 hb; replace HB := ss_ HB hb; clear hb))
    go_meet
    case rel => exact ⟨_, (true), e1_, H', ⟨le_⟩, ⟨kr_ HO618.out⟩, ⟨by (with_reducible repeat (first | apply Kd.R_alloc | apply Kd.R_drewN | apply Kd.R_drew)); exact Kd.R_mono HO606.out (fun _ hk => hk.2)⟩, ⟨kb_ BK601.out⟩, ⟨kb_ BK602.out⟩, ⟨kb_ BK603.out⟩, ⟨kb_ BK609.out⟩, ⟨bw_ HB⟩⟩
  ·have H' := Aside0.mk H
   clear H
   have hnb51 := NB601_602.out
   have hnc51 := NB602_601.out
   have hnb52 := NB601_603.out
   have hnc52 := NB603_601.out
   have hnb53 := NB601_609.out
   have hnc53 := NB609_601.out
   have hz54 := cz3_ BK601
   go_wp2_with (first | ((with_reducible refine gq_ 77 22 ?_); refine gc_ 22 Try.func77 (spec_LogOk.calls k _ _ l0_0 a0_1 a0_2 false _ (cb_ HR0_0 HB) HC0_0.out A27.out) ?_; rintro e w55 ⟨rfl, hb⟩; refine ⟨_, rfl, ?_⟩; replace HO606 := rb_ HO606 hb; replace HO618 := rb_ HO618 hb; replace BK601 := kl_ BK601 hb; replace BK602 := kl_ BK602 hb; replace BK603 := kl_ BK603 hb; replace BK609 := kl_ BK609 hb; replace HB := ss_ HB hb; clear hb))
   go_meet
   case rel => exact ⟨_, (true), e1_, H', ⟨le_⟩, ⟨kr_ HO618.out⟩, ⟨by (with_reducible repeat (first | apply Kd.R_alloc | apply Kd.R_drewN | apply Kd.R_drew)); exact Kd.R_mono HO606.out (fun _ hk => hk.2)⟩, ⟨kb_ BK601.out⟩, ⟨kb_ BK602.out⟩, ⟨kb_ BK603.out⟩, ⟨kb_ BK609.out⟩, ⟨bw_ HB⟩⟩
 case rest =>
  clear HC8
  try clear c6
  try clear c7
  try clear hz14
  try clear hz21
  try clear hz24
  obtain ⟨kq, x20_7, rfl, HA, HJ7, HO_11, HO_610000, BK601, BK602, BK603, BK609, HB⟩ := hcut
  cases kq with
  | zero => exact absurd HA.out (by simp [spec_Extend.j0])
  | succ kj7 =>
   have H := HA.out
   clear HA
   simp only [spec_Extend.j0] at H
   replace H := itb_ H; obtain ⟨rfl, H⟩ | ⟨rfl, H⟩ := H
   ·replace H := so4_ H; obtain ⟨rfl, rfl, rfl, rfl⟩ := H
    have hnb57 := NB609_601.out
    have hnc57 := NB601_609.out
    have hnb58 := NB609_602.out
    have hnc58 := NB602_609.out
    have hnb59 := NB609_603.out
    have hnc59 := NB603_609.out
    have hz60 := cz3_ BK609
    have hnb61 := NB603_601.out
    have hnc61 := NB601_603.out
    have hnb62 := NB603_602.out
    have hnc62 := NB602_603.out
    have hz63 := cz3_ BK603
    go_wp2
    refine bodyPost_ret (results_ct rfl _ _ gb603 31 #[.slice Ao17 t604.length co17, .int .i64 t607, .string t608] (0, 0) _ rfl (by exact kq_ BK603) Try.underlying31 rfl (by kernel_rfl)) rfl ?_
    exact ⟨_, e2_, by (with_reducible repeat (first | apply Kd.R_alloc | apply Kd.R_drewN | apply Kd.R_drew)); exact Kd.R_mono (Kd.R_far (p := ⟨gb603, 2, none⟩) (Kd.R_far (p := ⟨gb603, 1, none⟩) (Kd.R_far (p := ⟨gb603, 0, none⟩) (Kd.R_types HO_610000.out BK603.out (by decide)) (fun _ hk => hk.2) (.slice Ao17 t604.length co17)) (fun _ hk => hk.2) (.int .i64 t607)) (fun _ hk => hk.2) (.string t608)) (fun _ hk => trivial), bw_ HB⟩
   ·replace H := bi_ H; obtain ⟨t621, A64, H⟩ := H
    replace H := itb_ H; obtain ⟨rfl, H⟩ | ⟨rfl, H⟩ := H
    ·replace H := it_ H; obtain ⟨c66, H⟩ | ⟨c66, H⟩ := H
     ·have c66b0 : ((l3.length : Int) == 0) = true := beq_iff_eq.mpr c66
      have c66b1 : ((l3.length : Int) != 0) = false := bne_eq_false_iff_eq.mpr c66
      clear c66
      replace H := so4_ H; obtain ⟨rfl, rfl, rfl, rfl⟩ := H
      have hnb67 := NB602_601.out
      have hnc67 := NB601_602.out
      have hnb68 := NB602_603.out
      have hnc68 := NB603_602.out
      have hnb69 := NB602_609.out
      have hnc69 := NB609_602.out
      have hz70 := cz2_ BK602
      go_wp2_with (first | ((with_reducible refine gq_ 79 40 ?_); refine gc_ 40 Try.func79 (spec_IsSigned.calls kj7 _ _ l1 a2_0 a2_1 true _ (cb_ HR1 HB) HC1.out A64.out) ?_; rintro e w71 ⟨rfl, hb⟩; refine ⟨_, rfl, ?_⟩; replace HO_11 := rb_ HO_11 hb; replace HO_610000 := rb_ HO_610000 hb; replace BK601 := kl_ BK601 hb; replace BK602 := kl_ BK602 hb; replace BK603 := kl_ BK603 hb; replace BK609 := kl_ BK609 hb; replace HB := ss_ HB hb; clear hb; have hnb72 := NB609_601.out; have hnc72 := NB601_609.out; have hnb73 := NB609_603.out; have hnc73 := NB603_609.out; have hz74 := cz3_ BK609; have hnb75 := NB603_601.out; have hnc75 := NB601_603.out; have hz76 := cz3_ BK603))
      refine bodyPost_ret (results_ct rfl _ _ gb603 31 #[.slice Ao17 t604.length co17, .int .i64 t607, .string t608] (0, 0) _ rfl (by exact kq_ BK603) Try.underlying31 rfl (by kernel_rfl)) rfl ?_
      exact ⟨_, e2_, by (with_reducible repeat (first | apply Kd.R_alloc | apply Kd.R_drewN | apply Kd.R_drew)); exact Kd.R_mono (Kd.R_far (p := ⟨gb603, 2, none⟩) (Kd.R_far (p := ⟨gb603, 1, none⟩) (Kd.R_far (p := ⟨gb603, 0, none⟩) (Kd.R_types HO_610000.out BK603.out (by decide)) (fun _ hk => hk.2) (.slice Ao17 t604.length co17)) (fun _ hk => hk.2) (.int .i64 t607)) (fun _ hk => hk.2) (.string t608)) (fun _ hk => trivial), bw_ HB⟩
     ·have c66b0 : ((l3.length : Int) == 0) = false := beq_eq_false_iff_ne.mpr c66
      have c66b1 : ((l3.length : Int) != 0) = true := bne_iff_ne.mpr c66
      have c66b2 : ¬ (l3 = []) := fun h_ => c66 (by rw [h_]; rfl)
      replace H := bi_ H; obtain ⟨⟨t622, t623⟩, A77, H⟩ := H
      dsimp only at H
      replace H := it_ H; obtain ⟨c78, H⟩ | ⟨c78, H⟩ := H
      ·have c78b0 : (!(a2_0 == t622) || (!(a2_1.toList == t623.toList))) = true := c78
       clear c78
       replace H := so4_ H; obtain ⟨rfl, rfl, rfl, rfl⟩ := H
       have hnb79 := NB602_601.out
       have hnc79 := NB601_602.out
       have hnb80 := NB602_603.out
       have hnc80 := NB603_602.out
       have hnb81 := NB602_609.out
       have hnc81 := NB609_602.out
       have hz82 := cz2_ BK602
       try go_wp2_with (first | ((with_reducible refine gq_ 79 40 ?_); refine gc_ 40 Try.func79 (spec_IsSigned.calls kj7 _ _ l1 a2_0 a2_1 true _ (cb_ HR1 HB) HC1.out A64.out) ?_; rintro e w83 ⟨rfl, hb⟩; refine ⟨_, rfl, ?_⟩; replace HO_11 := rb_ HO_11 hb; replace HO_610000 := rb_ HO_610000 hb; replace BK601 := kl_ BK601 hb; replace BK602 := kl_ BK602 hb; replace BK603 := kl_ BK603 hb; replace BK609 := kl_ BK609 hb; replace HB := ss_ HB hb; clear hb))
       replace HO_11 := Aside0.mk (Kd.R_drew HO_11.out)
       replace HO_610000 := Aside0.mk (Kd.R_drew HO_610000.out)
       replace BK601 := Aside0.mk (blk_drew BK601.out)
       replace BK602 := Aside0.mk (blk_drew BK602.out)
       replace BK603 := Aside0.mk (blk_drew BK603.out)
       replace BK609 := Aside0.mk (blk_drew BK609.out)
       replace HB := Aside0.mk (below_drew1 HB.out)
       obtain ⟨Ao85, co85, eo85⟩ := Kd.R_slice HO_11.out
       (first | subst eo85 | (injection eo85 with f1_ f2_ f3_; have f4_ := f1_.symm; have f5_ := f3_.symm; clear f1_ f2_ f3_; subst f4_; subst f5_))
       refine start_ (n := 5) (S := fun w' => w'.cell? ⟨gb602, 0, none⟩ = some (.int .i64 a2_0) ∧ w'.cell? ⟨gb602, 1, none⟩ = some (.string a2_1)) (ds := []) (lz_ 5 0) (by kernel_rfl) rfl rfl ⟨bc0_ BK602.out, bc1_ BK602.out⟩ (fun hHeld => ?_)
       generalize w83.drew = w84 at HO_11 HO_610000 BK601 BK602 BK603 BK609 HB hHeld ⊢
       refine pk_ 1 50 2 ?_
       refine tk_ 0 49 3 ?_
       refine one_ (i := 2) (N := some 51) (lz_ 5 7) rfl rfl (by kernel_rfl) (by decide) (fun K hK => ?_)
       refine gf_ Try.func72 (spec_HeadOf.calls kj7 _ _ y616 t622 t623 _ (ch_ HO_11) (cl_ HO_11) A77.out) ?_
       rintro e w86 ⟨rfl, hb⟩
       refine ⟨_, rfl, ?_⟩
       replace HO_11 := rb_ HO_11 hb
       replace HO_610000 := rb_ HO_610000 hb
       replace BK601 := kl_ BK601 hb
       replace BK602 := kl_ BK602 hb
       replace BK603 := kl_ BK603 hb
       replace BK609 := kl_ BK609 hb
       replace HB := ss_ HB hb
       clear hb
       refine hK.out _ _ ⟨bc0_ BK602.out, bc1_ BK602.out⟩ (fun hHeld => ?_)
       clear hK K
       refine no_ 51 ?_
       refine pk_ 3 52 15 ?_
       refine pk_ 4 48 31 ?_
       refine done_ (by kernel_rfl) ?_
       have hnb87 := NB609_601.out
       have hnc87 := NB601_609.out
       have hnb88 := NB609_603.out
       have hnc88 := NB603_609.out
       have hz89 := cz3_ BK609
       have hnb90 := NB603_601.out
       have hnc90 := NB601_603.out
       have hz91 := cz3_ BK603
       try go_wp2
       refine bodyPost_ret (results_ct rfl _ _ gb603 31 #[.slice Ao17 t604.length co17, .int .i64 t607, .string t608] (0, 0) _ rfl (by exact kq_ BK603) Try.underlying31 rfl (by kernel_rfl)) rfl ?_
       exact ⟨_, e2_, by (with_reducible repeat (first | apply Kd.R_alloc | apply Kd.R_drewN | apply Kd.R_drew)); exact Kd.R_mono (Kd.R_far (p := ⟨gb603, 2, none⟩) (Kd.R_far (p := ⟨gb603, 1, none⟩) (Kd.R_far (p := ⟨gb603, 0, none⟩) (Kd.R_types HO_610000.out BK603.out (by decide)) (fun _ hk => hk.2) (.slice Ao17 t604.length co17)) (fun _ hk => hk.2) (.int .i64 t607)) (fun _ hk => hk.2) (.string t608)) (fun _ hk => trivial), bw_ HB⟩
      ·have c78b0 : (!(a2_0 == t622) || (!(a2_1.toList == t623.toList))) = false := by simpa using c78
       clear c78
       replace H := so4_ H; obtain ⟨rfl, rfl, rfl, rfl⟩ := H
       have hnb92 := NB602_601.out
       have hnc92 := NB601_602.out
       have hnb93 := NB602_603.out
       have hnc93 := NB603_602.out
       have hnb94 := NB602_609.out
       have hnc94 := NB609_602.out
       have hz95 := cz2_ BK602
       try go_wp2_with (first | ((with_reducible refine gq_ 79 40 ?_); refine gc_ 40 Try.func79 (spec_IsSigned.calls kj7 _ _ l1 a2_0 a2_1 true _ (cb_ HR1 HB) HC1.out A64.out) ?_; rintro e w96 ⟨rfl, hb⟩; refine ⟨_, rfl, ?_⟩; replace HO_11 := rb_ HO_11 hb; replace HO_610000 := rb_ HO_610000 hb; replace BK601 := kl_ BK601 hb; replace BK602 := kl_ BK602 hb; replace BK603 := kl_ BK603 hb; replace BK609 := kl_ BK609 hb; replace HB := ss_ HB hb; clear hb))
       replace HO_11 := Aside0.mk (Kd.R_drew HO_11.out)
       replace HO_610000 := Aside0.mk (Kd.R_drew HO_610000.out)
       replace BK601 := Aside0.mk (blk_drew BK601.out)
       replace BK602 := Aside0.mk (blk_drew BK602.out)
       replace BK603 := Aside0.mk (blk_drew BK603.out)
       replace BK609 := Aside0.mk (blk_drew BK609.out)
       replace HB := Aside0.mk (below_drew1 HB.out)
       obtain ⟨Ao98, co98, eo98⟩ := Kd.R_slice HO_11.out
       (first | subst eo98 | (injection eo98 with f1_ f2_ f3_; have f4_ := f1_.symm; have f5_ := f3_.symm; clear f1_ f2_ f3_; subst f4_; subst f5_))
       refine start_ (n := 5) (S := fun w' => w'.cell? ⟨gb602, 0, none⟩ = some (.int .i64 a2_0) ∧ w'.cell? ⟨gb602, 1, none⟩ = some (.string a2_1)) (ds := []) (lz_ 5 0) (by kernel_rfl) rfl rfl ⟨bc0_ BK602.out, bc1_ BK602.out⟩ (fun hHeld => ?_)
       generalize w96.drew = w97 at HO_11 HO_610000 BK601 BK602 BK603 BK609 HB hHeld ⊢
       refine pk_ 1 50 2 ?_
       refine tk_ 0 49 3 ?_
       refine one_ (i := 2) (N := some 51) (lz_ 5 7) rfl rfl (by kernel_rfl) (by decide) (fun K hK => ?_)
       refine gf_ Try.func72 (spec_HeadOf.calls kj7 _ _ y616 t622 t623 _ (ch_ HO_11) (cl_ HO_11) A77.out) ?_
       rintro e w99 ⟨rfl, hb⟩
       refine ⟨_, rfl, ?_⟩
       replace HO_11 := rb_ HO_11 hb
       replace HO_610000 := rb_ HO_610000 hb
       replace BK601 := kl_ BK601 hb
       replace BK602 := kl_ BK602 hb
       replace BK603 := kl_ BK603 hb
       replace BK609 := kl_ BK609 hb
       replace HB := ss_ HB hb
       clear hb
       refine hK.out _ _ ⟨bc0_ BK602.out, bc1_ BK602.out⟩ (fun hHeld => ?_)
       clear hK K
       refine no_ 51 ?_
       refine pk_ 3 52 15 ?_
       refine pk_ 4 48 31 ?_
       refine done_ (by kernel_rfl) ?_
       have hz100 := cz2_ BK602
       have hnb101 := NB603_601.out
       have hnc101 := NB601_603.out
       have hnb102 := NB603_609.out
       have hnc102 := NB609_603.out
       have hz103 := cz3_ BK603
       try go_wp2
       refine bodyPost_ret (results_ct rfl _ _ gb603 31 #[.slice Ao98 y616.length co98, .int .i64 a2_0, .string a2_1] (0, 0) _ rfl (by exact kq_ BK603) Try.underlying31 rfl (by kernel_rfl)) rfl ?_
       exact ⟨_, e2_, by (with_reducible repeat (first | apply Kd.R_alloc | apply Kd.R_drewN | apply Kd.R_drew)); exact Kd.R_mono (Kd.R_far (p := ⟨gb603, 2, none⟩) (Kd.R_far (p := ⟨gb603, 1, none⟩) (Kd.R_far (p := ⟨gb603, 0, none⟩) (Kd.R_types HO_11.out BK603.out (by decide)) (fun _ hk => hk.2) (.slice Ao98 y616.length co98)) (fun _ hk => hk.2) (.int .i64 a2_0)) (fun _ hk => hk.2) (.string a2_1)) (fun _ hk => trivial), bw_ HB⟩
    ·replace H := so4_ H; obtain ⟨rfl, rfl, rfl, rfl⟩ := H
     have hnb104 := NB602_601.out
     have hnc104 := NB601_602.out
     have hnb105 := NB602_603.out
     have hnc105 := NB603_602.out
     have hnb106 := NB602_609.out
     have hnc106 := NB609_602.out
     have hz107 := cz2_ BK602
     go_wp2_with (first | ((with_reducible refine gq_ 79 40 ?_); refine gc_ 40 Try.func79 (spec_IsSigned.calls kj7 _ _ l1 a2_0 a2_1 false _ (cb_ HR1 HB) HC1.out A64.out) ?_; rintro e w108 ⟨rfl, hb⟩; refine ⟨_, rfl, ?_⟩; replace HO_11 := rb_ HO_11 hb; replace HO_610000 := rb_ HO_610000 hb; replace BK601 := kl_ BK601 hb; replace BK602 := kl_ BK602 hb; replace BK603 := kl_ BK603 hb; replace BK609 := kl_ BK609 hb; replace HB := ss_ HB hb; clear hb; have hnb109 := NB609_601.out; have hnc109 := NB601_609.out; have hnb110 := NB609_603.out; have hnc110 := NB603_609.out; have hz111 := cz3_ BK609; have hnb112 := NB603_601.out; have hnc112 := NB601_603.out; have hz113 := cz3_ BK603))
     refine bodyPost_ret (results_ct rfl _ _ gb603 31 #[.slice Ao17 t604.length co17, .int .i64 t607, .string t608] (0, 0) _ rfl (by exact kq_ BK603) Try.underlying31 rfl (by kernel_rfl)) rfl ?_
     exact ⟨_, e2_, by (with_reducible repeat (first | apply Kd.R_alloc | apply Kd.R_drewN | apply Kd.R_drew)); exact Kd.R_mono (Kd.R_far (p := ⟨gb603, 2, none⟩) (Kd.R_far (p := ⟨gb603, 1, none⟩) (Kd.R_far (p := ⟨gb603, 0, none⟩) (Kd.R_types HO_610000.out BK603.out (by decide)) (fun _ hk => hk.2) (.slice Ao17 t604.length co17)) (fun _ hk => hk.2) (.int .i64 t607)) (fun _ hk => hk.2) (.string t608)) (fun _ hk => trivial), bw_ HB⟩
end Go.Proofs.Ytjnnglphdaemaaa.Q
end

section
-- Written by a program of this session (wip/tools/pp.sh) over the print of the kit.
namespace Go.Proofs.Ytjnnglphdaemaaa.Q
open Go.RowKit Go.Proofs.YtjnnglphdaemaaaW.PrintWords Go.Proofs.YtjnnglphdaemaaaW.PrintLast Go.Proofs.YtjnnglphdaemaaaW.PrintMore
attribute [local go_sem] max2_int min2_int max_two min_two max_three min_three max_four min_four   -- for this text's walks alone
set_option linter.unusedVariables false
set_option linter.unusedSimpArgs false
attribute [local go_sem high] eqA28
def impl_extend.j0 : Nat → List (S28) → List ByteArray → Bool → List ByteArray → Int → ByteArray → Int → ByteArray → Option (List ByteArray × Int × ByteArray × Int)
 | 0, _, _, _, _, _, _, _, _ => none
 | k + 1, x1, x3, x11, x602000, x602001, x602002, x603000, x603001 => if x11 = true then ((impl_copyLog.f x602000 x602001 x602002).bind fun bt605 => (some (bt605.1, bt605.2.1, bt605.2.2, 1))) else ((impl_IsSigned.f k x1 x603000 x603001).bind fun t610 => (if t610 = true then (if (x3.length : Int) = 0 then ((impl_copyLog.f x602000 x602001 x602002).bind fun bt611 => (some (bt611.1, bt611.2.1, bt611.2.2, 3))) else ((slices_Concat_string_string.f k (([x602000, x3] : List (List ByteArray)))).bind fun t624 => ((impl_HeadOf.f k t624).bind fun bt627 => (if (!(bt627.1 == x603000) || (!(bt627.2.toList == x603001.toList))) = true then ((impl_copyLog.f x602000 x602001 x602002).bind fun bt629 => (some (bt629.1, bt629.2.1, bt629.2.2, 4))) else (some (t624, x603000, x603001, 0)))))) else ((impl_copyLog.f x602000 x602001 x602002).bind fun bt616 => (some (bt616.1, bt616.2.1, bt616.2.2, 2)))))
def impl_extend.f (k : Nat) (l0_0 : List ByteArray) (a0_1 : Int) (a0_2 : ByteArray) (l1 : List (S28)) (a2_0 : Int) (a2_1 : ByteArray) (l3 : List ByteArray) : Option (List ByteArray × Int × ByteArray × Int) := (impl_HeadOk.f a2_0 a2_1).bind fun t604 => (if t604 = true then (impl_extend.j0 k l1 l3 (a2_0 != (wrap64 ((l0_0.length : Int) + (l3.length : Int)))) l0_0 a0_1 a0_2 a2_0 a2_1) else (impl_extend.j0 k l1 l3 true l0_0 a0_1 a0_2 a2_0 a2_1))
set_option maxHeartbeats 8000000 in
set_option maxRecDepth 100000 in
theorem impl_extend.calls (k : Nat) (P0_0_ : Nat → Prop) (A0_0 : Option Addr) (c0_0 : Nat) (l0_0 : List ByteArray) (a0_1 : Int) (a0_2 : ByteArray) (A1 : Option Addr) (c1 : Nat) (l1 : List (S28)) (a2_0 : Int) (a2_1 : ByteArray) (P3_ : Nat → Prop) (A3 : Option Addr) (c3 : Nat) (l3 : List ByteArray) (r1 : List ByteArray) (r2 : Int) (r3 : ByteArray) (r4 : Int) (w : World) (hs0_0 : Kd.V Kd.string 9 w w.heap.size (fun k_ => P0_0_ k_) (.slice A0_0 l0_0.length c0_0) l0_0) (hr1 : Kd.C k28 w A1 l1.length l1) (hc1 : l1.length ≤ c1) (hs3 : Kd.V Kd.string 9 w w.heap.size (fun k_ => P3_ k_) (.slice A3 l3.length c3) l3) (h : impl_extend.f k l0_0 a0_1 a0_2 l1 a2_0 a2_1 l3 = some (r1, r2, r3, r4)) :
  Calls Try.prog 64 #[.agg #[.slice A0_0 l0_0.length c0_0, .int .i64 a0_1, .string a0_2], .slice A1 l1.length c1, .agg #[.int .i64 a2_0, .string a2_1], .slice A3 l3.length c3] w fun e w' => ∃ v0_ : Value, e = .returned (.tuple #[.agg #[v0_, .int .i64 r2, .string r3], .int .i64 r4]) ∧ Kd.R Kd.string 9 w' w.heap.size (fun k_ => (w.heap.size ≤ k_)) v0_ r1 ∧ Below w.heap.size w w' := by
 have hu31 := Try.underlying31
 have hu28 := Try.underlying28
 have HO0_0 := Aside0.mk (show Kd.V Kd.string 9 w w.heap.size (fun k_ => ((P0_0_ k_ ∨ P3_ k_) ∨ w.heap.size ≤ k_)) (.slice A0_0 l0_0.length c0_0) l0_0 from Kd.V_mono hs0_0 (fun k_ hk => .inl (.inl hk)))
 have HR1 := Aside0.mk hr1
 have HC1 := Aside0.mk hc1
 clear hr1 hc1
 have HO3 := Aside0.mk (show Kd.V Kd.string 9 w w.heap.size (fun k_ => ((P0_0_ k_ ∨ P3_ k_) ∨ w.heap.size ≤ k_)) (.slice A3 l3.length c3) l3 from Kd.V_mono hs3 (fun k_ hk => .inl (.inr hk)))
 have HB := Aside0.mk (Below.refl w.heap.size w)
 have H : ((impl_HeadOk.f a2_0 a2_1).bind fun t604 => (if t604 = true then (impl_extend.j0 k l1 l3 (a2_0 != (wrap64 ((l0_0.length : Int) + (l3.length : Int)))) l0_0 a0_1 a0_2 a2_0 a2_1) else (impl_extend.j0 k l1 l3 true l0_0 a0_1 a0_2 a2_0 a2_1))) = some (r1, r2, r3, r4) := h
 clear h
 have HC5 := Aside0.mk H
 clear H
 go_enter Try.func64, Try.ntmps64
 go_upto_region 1 with (first | ((with_reducible refine gd_ 4 ?_); (try (refine gate_guard (by rfl) ?_; dsimp only)); refine bx_ 4 31 #[.slice A0_0 l0_0.length c0_0, .int .i64 a0_1, .string a0_2] ?_; intro gb601 hg w6 hbox hb; replace HO0_0 := Aside0.mk (Kd.V_below (Kd.V_elderB (by (with_reducible repeat (first | apply Kd.V_alloc | apply Kd.V_drewN | apply Kd.V_drew)); exact HO0_0.out) gb601 (Nat.le_of_eq hg.symm)) hb); replace HO3 := Aside0.mk (Kd.V_below (Kd.V_elderB (by (with_reducible repeat (first | apply Kd.V_alloc | apply Kd.V_drewN | apply Kd.V_drew)); exact HO3.out) gb601 (Nat.le_of_eq hg.symm)) hb); have BK601 := Aside0.mk hbox; have GW601 := gg_ hg HB; have GE601 := GW601; replace HB := ss_ HB hb; clear hb hbox hg) | ((with_reducible refine gd_ 6 ?_); (try (refine gate_guard (by rfl) ?_; dsimp only)); refine bx_ 6 28 #[.int .i64 a2_0, .string a2_1] ?_; intro gb602 hg w7 hbox hb; replace HO0_0 := Aside0.mk (Kd.V_below (Kd.V_elderB (by (with_reducible repeat (first | apply Kd.V_alloc | apply Kd.V_drewN | apply Kd.V_drew)); exact HO0_0.out) gb602 (Nat.le_of_eq hg.symm)) hb); replace HO3 := Aside0.mk (Kd.V_below (Kd.V_elderB (by (with_reducible repeat (first | apply Kd.V_alloc | apply Kd.V_drewN | apply Kd.V_drew)); exact HO3.out) gb602 (Nat.le_of_eq hg.symm)) hb); have BK602 := Aside0.mk hbox; have GW602 := gg_ hg HB; have GE602 := GW602; replace HB := ss_ HB hb; have NB601_602 := nla_ hg BK601; have NB602_601 := nga_ hg BK601; replace BK601 := kl_ BK601 hb; clear hb hbox hg) | ((with_reducible refine gd_ 8 ?_); (try (refine gate_guard (by rfl) ?_; dsimp only)); refine bx_ 8 31 #[.slice none 0 0, .int .i64 0, .string (⟨#[]⟩ : ByteArray)] ?_; intro gb603 hg w8 hbox hb; replace HO0_0 := Aside0.mk (Kd.V_below (Kd.V_elderB (by (with_reducible repeat (first | apply Kd.V_alloc | apply Kd.V_drewN | apply Kd.V_drew)); exact HO0_0.out) gb603 (Nat.le_of_eq hg.symm)) hb); replace HO3 := Aside0.mk (Kd.V_below (Kd.V_elderB (by (with_reducible repeat (first | apply Kd.V_alloc | apply Kd.V_drewN | apply Kd.V_drew)); exact HO3.out) gb603 (Nat.le_of_eq hg.symm)) hb); have BK603 := Aside0.mk hbox; have GW603 := gg_ hg HB; have GE603 := GW603; replace HB := ss_ HB hb; have NB601_603 := nla_ hg BK601; have NB603_601 := nga_ hg BK601; replace BK601 := kl_ BK601 hb; have NB602_603 := nla_ hg BK602; have NB603_602 := nga_ hg BK602; replace BK602 := kl_ BK602 hb; clear hb hbox hg))
 (try simp only [Act.put, List.setIfInBounds_toArray, List.set_cons_zero, List.set_cons_succ])
 go_cut [11] (fun v11 wc => ∃ (kq : Nat) (x11_4 : Bool), v11 = .bool x11_4 ∧ Aside0 (impl_extend.j0 kq l1 l3 x11_4 l0_0 a0_1 a0_2 a2_0 a2_1 = some (r1, r2, r3, r4)) ∧ Aside0 (kq ≤ k) ∧ Aside0 (Kd.V Kd.string 9 wc w.heap.size (fun k_ => ((P0_0_ k_ ∨ P3_ k_) ∨ w.heap.size ≤ k_) ∧ k_ ≠ gb601 ∧ k_ ≠ gb602 ∧ k_ ≠ gb603) (.slice A3 l3.length c3) l3) ∧ Aside0 (Kd.V Kd.string 9 wc w.heap.size (fun k_ => ((P0_0_ k_ ∨ P3_ k_) ∨ w.heap.size ≤ k_) ∧ k_ ≠ gb601 ∧ k_ ≠ gb602 ∧ k_ ≠ gb603) (.slice A0_0 l0_0.length c0_0) l0_0) ∧ Aside0 (wc.heap[gb601]? = some (.cells #[(.slice A0_0 l0_0.length c0_0), .int .i64 a0_1, .string a0_2] 31 (0, 0))) ∧ Aside0 (wc.heap[gb602]? = some (.cells #[.int .i64 a2_0, .string a2_1] 28 (0, 0))) ∧ Aside0 (wc.heap[gb603]? = some (.cells #[(.slice none 0 0), .int .i64 0, .string (⟨#[]⟩ : ByteArray)] 31 (0, 0))) ∧ Aside0 (Below w.heap.size w wc))
 case first =>
  have H := HC5.out
  clear HC5
  replace H := bi_ H; obtain ⟨t604, A9, H⟩ := H
  replace H := itb_ H; obtain ⟨rfl, H⟩ | ⟨rfl, H⟩ := H
  ·have H' := Aside0.mk H
   clear H
   have hnb11 := NB602_601.out
   have hnc11 := NB601_602.out
   have hnb12 := NB602_603.out
   have hnc12 := NB603_602.out
   have hz13 := cz2_ BK602
   go_wp2_with (first | ((with_reducible refine gq_ 93 13 ?_); refine gc_ 13 Try.func93 (impl_HeadOk.calls a2_0 a2_1 true _ A9.out) ?_; rintro e w14 ⟨rfl, hb⟩; refine ⟨_, rfl, ?_⟩; replace HO0_0 := Aside0.mk (Kd.V_below (by (with_reducible repeat (first | apply Kd.V_alloc | apply Kd.V_drewN | apply Kd.V_drew)); exact HO0_0.out) hb); replace HO3 := Aside0.mk (Kd.V_below (by (with_reducible repeat (first | apply Kd.V_alloc | apply Kd.V_drewN | apply Kd.V_drew)); exact HO3.out) hb); replace BK601 := kl_ BK601 hb; replace BK602 := kl_ BK602 hb; replace BK603 := kl_ BK603 hb; replace HB := ss_ HB hb; clear hb; have hz15 := cz2_ BK602; have hnb16 := NB601_603.out; have hnc16 := NB603_601.out; have hz17 := cz3_ BK601))
   go_meet
   case rel => exact ⟨_, ((a2_0 != (wrap64 ((l0_0.length : Int) + (l3.length : Int))))), e1_, H', ⟨le_⟩, ⟨by (with_reducible repeat (first | apply Kd.V_alloc | apply Kd.V_drewN | apply Kd.V_drew)); exact Kd.V_mono HO3.out (fun _ hk => ⟨hk.1.1.1, ⟨hk.1.1.2, ⟨hk.1.2, hk.2⟩⟩⟩)⟩, ⟨by (with_reducible repeat (first | apply Kd.V_alloc | apply Kd.V_drewN | apply Kd.V_drew)); exact Kd.V_mono HO0_0.out (fun _ hk => ⟨hk.1.1.1, ⟨hk.1.1.2, ⟨hk.1.2, hk.2⟩⟩⟩)⟩, ⟨kb_ BK601.out⟩, ⟨kb_ BK602.out⟩, ⟨kb_ BK603.out⟩, ⟨bw_ HB⟩⟩
  ·have H' := Aside0.mk H
   clear H
   have hnb18 := NB602_601.out
   have hnc18 := NB601_602.out
   have hnb19 := NB602_603.out
   have hnc19 := NB603_602.out
   have hz20 := cz2_ BK602
   go_wp2_with (first | ((with_reducible refine gq_ 93 13 ?_); refine gc_ 13 Try.func93 (impl_HeadOk.calls a2_0 a2_1 false _ A9.out) ?_; rintro e w21 ⟨rfl, hb⟩; refine ⟨_, rfl, ?_⟩; replace HO0_0 := Aside0.mk (Kd.V_below (by (with_reducible repeat (first | apply Kd.V_alloc | apply Kd.V_drewN | apply Kd.V_drew)); exact HO0_0.out) hb); replace HO3 := Aside0.mk (Kd.V_below (by (with_reducible repeat (first | apply Kd.V_alloc | apply Kd.V_drewN | apply Kd.V_drew)); exact HO3.out) hb); replace BK601 := kl_ BK601 hb; replace BK602 := kl_ BK602 hb; replace BK603 := kl_ BK603 hb; replace HB := ss_ HB hb; clear hb))
   go_meet
   case rel => exact ⟨_, (true), e1_, H', ⟨le_⟩, ⟨by (with_reducible repeat (first | apply Kd.V_alloc | apply Kd.V_drewN | apply Kd.V_drew)); exact Kd.V_mono HO3.out (fun _ hk => ⟨hk.1.1.1, ⟨hk.1.1.2, ⟨hk.1.2, hk.2⟩⟩⟩)⟩, ⟨by (with_reducible repeat (first | apply Kd.V_alloc | apply Kd.V_drewN | apply Kd.V_drew)); exact Kd.V_mono HO0_0.out (fun _ hk => ⟨hk.1.1.1, ⟨hk.1.1.2, ⟨hk.1.2, hk.2⟩⟩⟩)⟩, ⟨kb_ BK601.out⟩, ⟨kb_ BK602.out⟩, ⟨kb_ BK603.out⟩, ⟨bw_ HB⟩⟩
 case rest =>
  clear HC5
  try clear c3
  obtain ⟨kq, x11_4, rfl, HA, HJ4, HO_3, HO_602000, BK601, BK602, BK603, HB⟩ := hcut
  cases kq with
  | zero => exact absurd HA.out (by simp [impl_extend.j0])
  | succ kj4 =>
   have H := HA.out
   clear HA
   simp only [impl_extend.j0] at H
   replace H := itb_ H; obtain ⟨rfl, H⟩ | ⟨rfl, H⟩ := H
   ·replace H := bi_ H; obtain ⟨⟨t605, t608, t609⟩, A23, H⟩ := H
    dsimp only at H
    replace H := so4_ H; obtain ⟨rfl, rfl, rfl, rfl⟩ := H
    have hnb24 := NB601_602.out
    have hnc24 := NB602_601.out
    have hnb25 := NB601_603.out
    have hnc25 := NB603_601.out
    have hz26 := cz3_ BK601
    go_wp2_with (first | ((with_reducible refine gq_ 63 27 ?_); refine gc_ 27 Try.func63 (impl_copyLog.calls _ _ l0_0 a0_1 a0_2 t605 t608 t609 _ (cr_ (Kd.V_reads' HO_602000.out).2.2) ((Kd.V_reads' HO_602000.out).2.1) A23.out) ?_; rintro e w27 ⟨v606, rfl, ho0, hb⟩; refine ⟨_, rfl, ?_⟩; replace HO_3 := Aside0.mk (Kd.V_elder' (by (with_reducible repeat (first | apply Kd.V_alloc | apply Kd.V_drewN | apply Kd.V_drew)); exact HO_3.out) (Kd.R_base ho0) hb); replace HO_602000 := Aside0.mk (Kd.V_elder' (by (with_reducible repeat (first | apply Kd.V_alloc | apply Kd.V_drewN | apply Kd.V_drew)); exact HO_602000.out) (Kd.R_base ho0) hb); have HO607 := Aside0.mk (Kd.R_lower (Kd.R_newM (M := fun k_ => (w.heap.size ≤ k_)) ho0 (sz_ HB) (fun k_ h_ => h_)) (sz_ HB)); replace BK601 := kl_ BK601 hb; replace BK602 := kl_ BK602 hb; replace BK603 := kl_ BK603 hb; replace HB := ss_ HB hb; clear hb ho0; obtain ⟨Ao28, co28, eo28⟩ := Kd.R_slice HO607.out; subst eo28; have hnb29 := NB603_602.out; have hnc29 := NB602_603.out; have hz30 := cz3_ BK603))
    refine bodyPost_ret (results_ct rfl _ _ gb603 31 #[.slice Ao28 t605.length co28, .int .i64 t608, .string t609] (0, 0) _ rfl (by exact kq_ BK603) Try.underlying31 rfl (by kernel_rfl)) rfl ?_
    exact ⟨_, e2_, by (with_reducible repeat (first | apply Kd.R_alloc | apply Kd.R_drewN | apply Kd.R_drew)); exact Kd.R_mono (Kd.R_far (p := ⟨gb603, 2, none⟩) (Kd.R_far (p := ⟨gb603, 1, none⟩) (Kd.R_far (p := ⟨gb603, 0, none⟩) (Kd.R_types HO607.out BK603.out (by decide)) (fun _ hk => hk.2) (.slice Ao28 t605.length co28)) (fun _ hk => hk.2) (.int .i64 t608)) (fun _ hk => hk.2) (.string t609)) (fun _ hk => hk.1.1), bw_ HB⟩
   ·replace H := bi_ H; obtain ⟨t610, A31, H⟩ := H
    replace H := itb_ H; obtain ⟨rfl, H⟩ | ⟨rfl, H⟩ := H
    ·replace H := it_ H; obtain ⟨c33, H⟩ | ⟨c33, H⟩ := H
     ·have c33b0 : ((l3.length : Int) == 0) = true := beq_iff_eq.mpr c33
      have c33b1 : ((l3.length : Int) != 0) = false := bne_eq_false_iff_eq.mpr c33
      clear c33
      replace H := bi_ H; obtain ⟨⟨t611, t614, t615⟩, A34, H⟩ := H
      dsimp only at H
      replace H := so4_ H; obtain ⟨rfl, rfl, rfl, rfl⟩ := H
      have hnb35 := NB602_601.out
      have hnc35 := NB601_602.out
      have hnb36 := NB602_603.out
      have hnc36 := NB603_602.out
      have hz37 := cz2_ BK602
      go_wp2_with (first | ((with_reducible refine gq_ 22 31 ?_); refine gc_ 31 Try.func22 (impl_IsSigned.calls kj4 _ _ l1 a2_0 a2_1 true _ (cb_ HR1 HB) HC1.out A31.out) ?_; rintro e w38 ⟨rfl, hb⟩; refine ⟨_, rfl, ?_⟩; replace HO_3 := Aside0.mk (Kd.V_below (by (with_reducible repeat (first | apply Kd.V_alloc | apply Kd.V_drewN | apply Kd.V_drew)); exact HO_3.out) hb); replace HO_602000 := Aside0.mk (Kd.V_below (by (with_reducible repeat (first | apply Kd.V_alloc | apply Kd.V_drewN | apply Kd.V_drew)); exact HO_602000.out) hb); replace BK601 := kl_ BK601 hb; replace BK602 := kl_ BK602 hb; replace BK603 := kl_ BK603 hb; replace HB := ss_ HB hb; clear hb; have hnb39 := NB601_603.out; have hnc39 := NB603_601.out; have hz40 := cz3_ BK601) | ((with_reducible refine gq_ 63 40 ?_); refine gc_ 40 Try.func63 (impl_copyLog.calls _ _ l0_0 a0_1 a0_2 t611 t614 t615 _ (cr_ (Kd.V_reads' HO_602000.out).2.2) ((Kd.V_reads' HO_602000.out).2.1) A34.out) ?_; rintro e w41 ⟨v612, rfl, ho0, hb⟩; refine ⟨_, rfl, ?_⟩; replace HO_3 := Aside0.mk (Kd.V_elder' (by (with_reducible repeat (first | apply Kd.V_alloc | apply Kd.V_drewN | apply Kd.V_drew)); exact HO_3.out) (Kd.R_base ho0) hb); replace HO_602000 := Aside0.mk (Kd.V_elder' (by (with_reducible repeat (first | apply Kd.V_alloc | apply Kd.V_drewN | apply Kd.V_drew)); exact HO_602000.out) (Kd.R_base ho0) hb); have HO613 := Aside0.mk (Kd.R_lower (Kd.R_newM (M := fun k_ => (w.heap.size ≤ k_)) ho0 (sz_ HB) (fun k_ h_ => h_)) (sz_ HB)); replace BK601 := kl_ BK601 hb; replace BK602 := kl_ BK602 hb; replace BK603 := kl_ BK603 hb; replace HB := ss_ HB hb; clear hb ho0; obtain ⟨Ao42, co42, eo42⟩ := Kd.R_slice HO613.out; subst eo42; have hz43 := cz3_ BK603))
      refine bodyPost_ret (results_ct rfl _ _ gb603 31 #[.slice Ao42 t611.length co42, .int .i64 t614, .string t615] (0, 0) _ rfl (by exact kq_ BK603) Try.underlying31 rfl (by kernel_rfl)) rfl ?_
      exact ⟨_, e2_, by (with_reducible repeat (first | apply Kd.R_alloc | apply Kd.R_drewN | apply Kd.R_drew)); exact Kd.R_mono (Kd.R_far (p := ⟨gb603, 2, none⟩) (Kd.R_far (p := ⟨gb603, 1, none⟩) (Kd.R_far (p := ⟨gb603, 0, none⟩) (Kd.R_types HO613.out BK603.out (by decide)) (fun _ hk => hk.2) (.slice Ao42 t611.length co42)) (fun _ hk => hk.2) (.int .i64 t614)) (fun _ hk => hk.2) (.string t615)) (fun _ hk => hk.1.1), bw_ HB⟩
     ·have c33b0 : ((l3.length : Int) == 0) = false := beq_eq_false_iff_ne.mpr c33
      have c33b1 : ((l3.length : Int) != 0) = true := bne_iff_ne.mpr c33
      have c33b2 : ¬ (l3 = []) := fun h_ => c33 (by rw [h_]; rfl)
      obtain ⟨y621, hy621⟩ : ∃ y_ : List (List ByteArray), y_ = (([l0_0, l3] : List (List ByteArray))) := ⟨_, rfl⟩
      replace H : ((slices_Concat_string_string.f kj4 y621).bind fun t624 => ((impl_HeadOf.f kj4 t624).bind fun bt627 => (if (!(bt627.1 == a2_0) || (!(bt627.2.toList == a2_1.toList))) = true then ((impl_copyLog.f l0_0 a0_1 a0_2).bind fun bt629 => (some (bt629.1, bt629.2.1, bt629.2.2, 4))) else (some (t624, a2_0, a2_1, 0))))) = some (r1, r2, r3, r4) := yh_ hy621 H
      have Ny621 := Aside0.mk hy621
      clear hy621
      replace H := bi_ H; obtain ⟨t624, A44, H⟩ := H
      replace H := bi_ H; obtain ⟨⟨t627, t628⟩, A45, H⟩ := H
      dsimp only at H
      replace H := it_ H; obtain ⟨c46, H⟩ | ⟨c46, H⟩ := H
      ·have c46b0 : (!(t627 == a2_0) || (!(t628.toList == a2_1.toList))) = true := c46
       clear c46
       replace H := bi_ H; obtain ⟨⟨t629, t632, t633⟩, A47, H⟩ := H
       dsimp only at H
       replace H := so4_ H; obtain ⟨rfl, rfl, rfl, rfl⟩ := H
       have hnb48 := NB602_601.out
       have hnc48 := NB601_602.out
       have hnb49 := NB602_603.out
       have hnc49 := NB603_602.out
       have hz50 := cz2_ BK602
       try go_wp2_with (first | ((with_reducible refine gq_ 22 31 ?_); refine gc_ 31 Try.func22 (impl_IsSigned.calls kj4 _ _ l1 a2_0 a2_1 true _ (cb_ HR1 HB) HC1.out A31.out) ?_; rintro e w51 ⟨rfl, hb⟩; refine ⟨_, rfl, ?_⟩; replace HO_3 := Aside0.mk (Kd.V_below (by (with_reducible repeat (first | apply Kd.V_alloc | apply Kd.V_drewN | apply Kd.V_drew)); exact HO_3.out) hb); replace HO_602000 := Aside0.mk (Kd.V_below (by (with_reducible repeat (first | apply Kd.V_alloc | apply Kd.V_drewN | apply Kd.V_drew)); exact HO_602000.out) hb); replace BK601 := kl_ BK601 hb; replace BK602 := kl_ BK602 hb; replace BK603 := kl_ BK603 hb; replace HB := ss_ HB hb; clear hb; have hnb52 := NB601_603.out; have hnc52 := NB603_601.out; have hz53 := cz3_ BK601) | ((with_reducible refine gd_ 44 ?_); (try (refine gate_guard (by rfl) ?_; dsimp only)); refine Kd.N_lit (Kd.slice 9 Kd.string) _ 24 ?hg (N' := 44) ?hd (xs := ([l0_0, l3] : List (List ByteArray))) (inner := [.slice A0_0 l0_0.length c0_0, .slice A3 l3.length c3]) (ok := (fun k_ => ((P0_0_ k_ ∨ P3_ k_) ∨ w.heap.size ≤ k_) ∧ k_ ≠ gb601 ∧ k_ ≠ gb602 ∧ k_ ≠ gb603)) (okp := (fun k_ => ((P0_0_ k_ ∨ P3_ k_) ∨ w.heap.size ≤ k_) ∧ k_ ≠ gb601 ∧ k_ ≠ gb602 ∧ k_ ≠ gb603)) ?hr ?hp (fun _ hk => hk) ((show ∀ k_, w51.heap.size ≤ k_ → (fun k_ => ((P0_0_ k_ ∨ P3_ k_) ∨ w.heap.size ≤ k_) ∧ k_ ≠ gb601 ∧ k_ ≠ gb602 ∧ k_ ≠ gb603) k_ from fun k_ hk => ⟨(.inr (Nat.le_trans (sz_ HB) hk)), Kd.freshB (kb_ BK601.out) k_ hk, Kd.freshB (kb_ BK602.out) k_ hk, Kd.freshB (kb_ BK603.out) k_ hk⟩) _ (Nat.le_refl _)) (Below.refl _ _) (Nat.le_refl _) (by simp) ?_; (case hd => rfl); (case hg => rfl); (case hr => first | (go_simp; done) | (go_simp; rfl)); (case hp => exact (Reps.one (show Kd.FK (Kd.slice 9 Kd.string) _ _ l0_0 [.slice A0_0 l0_0.length c0_0] from (Kd.FK_slice_mk (Kd.V_reads' (Kd.V_mono (ok' := (fun k_ => ((P0_0_ k_ ∨ P3_ k_) ∨ w.heap.size ≤ k_) ∧ k_ ≠ gb601 ∧ k_ ≠ gb602 ∧ k_ ≠ gb603)) (HO_602000.out) (fun k_ hk => ⟨hk.1, ⟨hk.2.1, ⟨hk.2.2.1, hk.2.2.2⟩⟩⟩))).2.1 (Kd.V_F (Kd.V_mono (ok' := (fun k_ => ((P0_0_ k_ ∨ P3_ k_) ∨ w.heap.size ≤ k_) ∧ k_ ≠ gb601 ∧ k_ ≠ gb602 ∧ k_ ≠ gb603)) (HO_602000.out) (fun k_ hk => ⟨hk.1, ⟨hk.2.1, ⟨hk.2.2.1, hk.2.2.2⟩⟩⟩))))) (Reps.one (show Kd.FK (Kd.slice 9 Kd.string) _ _ l3 [.slice A3 l3.length c3] from (Kd.FK_slice_mk (Kd.V_reads' (Kd.V_mono (ok' := (fun k_ => ((P0_0_ k_ ∨ P3_ k_) ∨ w.heap.size ≤ k_) ∧ k_ ≠ gb601 ∧ k_ ≠ gb602 ∧ k_ ≠ gb603)) (HO_3.out) (fun k_ hk => ⟨hk.1, ⟨hk.2.1, ⟨hk.2.2.1, hk.2.2.2⟩⟩⟩))).2.1 (Kd.V_F (Kd.V_mono (ok' := (fun k_ => ((P0_0_ k_ ∨ P3_ k_) ∨ w.heap.size ≤ k_) ∧ k_ ≠ gb601 ∧ k_ ≠ gb602 ∧ k_ ≠ gb603)) (HO_3.out) (fun k_ hk => ⟨hk.1, ⟨hk.2.1, ⟨hk.2.2.1, hk.2.2.2⟩⟩⟩))))) (Reps.none _ _)))); intro v622 w54 ho55 hb hg_ hnew_; clear hg_ hnew_; (first | rw [← Ny621.out] at ho55 | (simp only [Int.reduceToNat] at ho55; rw [← Ny621.out] at ho55)); replace HO_3 := Aside0.mk (Kd.V_elder' (by (with_reducible repeat (first | apply Kd.V_alloc | apply Kd.V_drewN | apply Kd.V_drew)); exact HO_3.out) (Kd.N_base ho55) hb); replace HO_602000 := Aside0.mk (Kd.V_elder' (by (with_reducible repeat (first | apply Kd.V_alloc | apply Kd.V_drewN | apply Kd.V_drew)); exact HO_602000.out) (Kd.N_base ho55) hb); have HO623 := Aside0.mk (Kd.N_lower ho55 (sz_ HB)); replace BK601 := kl_ BK601 hb; replace BK602 := kl_ BK602 hb; replace BK603 := kl_ BK603 hb; replace HB := ss_ HB hb; clear hb ho55; obtain ⟨Ao56, co56, eo56⟩ := Kd.N_slice HO623.out; subst eo56) | ((with_reducible refine gq_ 106 45 ?_); refine gc_ 45 Try.func106 (slices_Concat_string_string.calls kj4 _ _ y621 t624 _ (cr_ (Kd.N_reads' HO623.out).2.2) ((Kd.N_reads' HO623.out).2.1) A44.out) ?_; rintro e w57 ⟨v625, rfl, ho0, hb⟩; refine ⟨_, rfl, ?_⟩; replace HO_3 := Aside0.mk (Kd.V_elder' (by (with_reducible repeat (first | apply Kd.V_alloc | apply Kd.V_drewN | apply Kd.V_drew)); exact HO_3.out) (Kd.R_base ho0) hb); replace HO_602000 := Aside0.mk (Kd.V_elder' (by (with_reducible repeat (first | apply Kd.V_alloc | apply Kd.V_drewN | apply Kd.V_drew)); exact HO_602000.out) (Kd.R_base ho0) hb); replace HO623 := Aside0.mk (Kd.N_elder' (by (with_reducible repeat (first | apply Kd.N_alloc | apply Kd.N_drewN | apply Kd.N_drew)); exact HO623.out) (Kd.R_base ho0) hb); have HO626 := Aside0.mk (Kd.R_lower (Kd.R_newM (M := fun k_ => (w.heap.size ≤ k_)) ho0 (sz_ HB) (fun k_ h_ => h_)) (sz_ HB)); replace BK601 := kl_ BK601 hb; replace BK602 := kl_ BK602 hb; replace BK603 := kl_ BK603 hb; replace HB := ss_ HB hb; clear hb ho0))
       replace HO_3 := Aside0.mk (Kd.V_drew HO_3.out)
       replace HO_602000 := Aside0.mk (Kd.V_drew HO_602000.out)
       replace HO623 := Aside0.mk (Kd.N_drew HO623.out)
       replace HO626 := Aside0.mk (Kd.R_drew HO626.out)
       replace BK601 := Aside0.mk (blk_drew BK601.out)
       replace BK602 := Aside0.mk (blk_drew BK602.out)
       replace BK603 := Aside0.mk (blk_drew BK603.out)
       replace HB := Aside0.mk (below_drew1 HB.out)
       obtain ⟨Ao59, co59, eo59⟩ := Kd.R_slice HO626.out
       (first | subst eo59 | (injection eo59 with f1_ f2_ f3_; have f4_ := f1_.symm; have f5_ := f3_.symm; clear f1_ f2_ f3_; subst f4_; subst f5_))
       refine start_ (n := 4) (S := fun w' => w'.cell? ⟨gb602, 0, none⟩ = some (.int .i64 a2_0) ∧ w'.cell? ⟨gb602, 1, none⟩ = some (.string a2_1)) (ds := []) (lz_ 4 0) (by kernel_rfl) rfl rfl ⟨bc0_ BK602.out, bc1_ BK602.out⟩ (fun hHeld => ?_)
       generalize w57.drew = w58 at HO_3 HO_602000 HO623 HO626 BK601 BK602 BK603 HB hHeld ⊢
       refine pk_ 0 46 1 ?_
       refine tk_ 2 48 5 ?_
       refine one_ (i := 1) (N := some 47) (lz_ 4 7) rfl rfl (by kernel_rfl) (by decide) (fun K hK => ?_)
       refine gf_ Try.func12 (impl_HeadOf.calls kj4 _ _ t624 t627 t628 _ (ch_ HO626) (cl_ HO626) A45.out) ?_
       rintro e w60 ⟨rfl, hb⟩
       refine ⟨_, rfl, ?_⟩
       replace HO_3 := Aside0.mk (Kd.V_below (by (with_reducible repeat (first | apply Kd.V_alloc | apply Kd.V_drewN | apply Kd.V_drew)); exact HO_3.out) hb)
       replace HO_602000 := Aside0.mk (Kd.V_below (by (with_reducible repeat (first | apply Kd.V_alloc | apply Kd.V_drewN | apply Kd.V_drew)); exact HO_602000.out) hb)
       replace HO623 := Aside0.mk (Kd.N_below (by (with_reducible repeat (first | apply Kd.N_alloc | apply Kd.N_drewN | apply Kd.N_drew)); exact HO623.out) hb)
       replace HO626 := rb_ HO626 hb
       replace BK601 := kl_ BK601 hb
       replace BK602 := kl_ BK602 hb
       replace BK603 := kl_ BK603 hb
       replace HB := ss_ HB hb
       clear hb
       refine hK.out _ _ ⟨bc0_ BK602.out, bc1_ BK602.out⟩ (fun hHeld => ?_)
       clear hK K
       refine no_ 47 ?_
       refine pk_ 3 49 15 ?_
       refine done_ (by kernel_rfl) ?_
       have hz61 := cz3_ BK601
       try go_wp2_with (first | ((with_reducible refine gq_ 63 51 ?_); refine gc_ 51 Try.func63 (impl_copyLog.calls _ _ l0_0 a0_1 a0_2 t629 t632 t633 _ (cr_ (Kd.V_reads' HO_602000.out).2.2) ((Kd.V_reads' HO_602000.out).2.1) A47.out) ?_; rintro e w62 ⟨v630, rfl, ho0, hb⟩; refine ⟨_, rfl, ?_⟩; replace HO_3 := Aside0.mk (Kd.V_elder' (by (with_reducible repeat (first | apply Kd.V_alloc | apply Kd.V_drewN | apply Kd.V_drew)); exact HO_3.out) (Kd.R_base ho0) hb); replace HO_602000 := Aside0.mk (Kd.V_elder' (by (with_reducible repeat (first | apply Kd.V_alloc | apply Kd.V_drewN | apply Kd.V_drew)); exact HO_602000.out) (Kd.R_base ho0) hb); replace HO623 := Aside0.mk (Kd.N_elder' (by (with_reducible repeat (first | apply Kd.N_alloc | apply Kd.N_drewN | apply Kd.N_drew)); exact HO623.out) (Kd.R_base ho0) hb); have HO631 := Aside0.mk (Kd.R_lower (Kd.R_new' (Kd.R_newM (M := fun k_ => (w.heap.size ≤ k_)) ho0 (sz_ HB) (fun k_ h_ => h_)) (lt_ HO626)) (sz_ HB)); replace HO626 := re_ HO626 ho0 hb; replace BK601 := kl_ BK601 hb; replace BK602 := kl_ BK602 hb; replace BK603 := kl_ BK603 hb; replace HB := ss_ HB hb; clear hb ho0; obtain ⟨Ao63, co63, eo63⟩ := Kd.R_slice HO631.out; subst eo63; have hz64 := cz3_ BK603))
       refine bodyPost_ret (results_ct rfl _ _ gb603 31 #[.slice Ao63 t629.length co63, .int .i64 t632, .string t633] (0, 0) _ rfl (by exact kq_ BK603) Try.underlying31 rfl (by kernel_rfl)) rfl ?_
       exact ⟨_, e2_, by (with_reducible repeat (first | apply Kd.R_alloc | apply Kd.R_drewN | apply Kd.R_drew)); exact Kd.R_mono (Kd.R_far (p := ⟨gb603, 2, none⟩) (Kd.R_far (p := ⟨gb603, 1, none⟩) (Kd.R_far (p := ⟨gb603, 0, none⟩) (Kd.R_types HO631.out BK603.out (by decide)) (fun _ hk => hk.2) (.slice Ao63 t629.length co63)) (fun _ hk => hk.2) (.int .i64 t632)) (fun _ hk => hk.2) (.string t633)) (fun _ hk => hk.1.1.1), bw_ HB⟩
      ·have c46b0 : (!(t627 == a2_0) || (!(t628.toList == a2_1.toList))) = false := by simpa using c46
       clear c46
       replace H := so4_ H; obtain ⟨rfl, rfl, rfl, rfl⟩ := H
       have hnb65 := NB602_601.out
       have hnc65 := NB601_602.out
       have hnb66 := NB602_603.out
       have hnc66 := NB603_602.out
       have hz67 := cz2_ BK602
       try go_wp2_with (first | ((with_reducible refine gq_ 22 31 ?_); refine gc_ 31 Try.func22 (impl_IsSigned.calls kj4 _ _ l1 a2_0 a2_1 true _ (cb_ HR1 HB) HC1.out A31.out) ?_; rintro e w68 ⟨rfl, hb⟩; refine ⟨_, rfl, ?_⟩; replace HO_3 := Aside0.mk (Kd.V_below (by (with_reducible repeat (first | apply Kd.V_alloc | apply Kd.V_drewN | apply Kd.V_drew)); exact HO_3.out) hb); replace HO_602000 := Aside0.mk (Kd.V_below (by (with_reducible repeat (first | apply Kd.V_alloc | apply Kd.V_drewN | apply Kd.V_drew)); exact HO_602000.out) hb); replace BK601 := kl_ BK601 hb; replace BK602 := kl_ BK602 hb; replace BK603 := kl_ BK603 hb; replace HB := ss_ HB hb; clear hb; have hnb69 := NB601_603.out; have hnc69 := NB603_601.out; have hz70 := cz3_ BK601) | ((with_reducible refine gd_ 44 ?_); (try (refine gate_guard (by rfl) ?_; dsimp only)); refine Kd.N_lit (Kd.slice 9 Kd.string) _ 24 ?hg (N' := 44) ?hd (xs := ([l0_0, l3] : List (List ByteArray))) (inner := [.slice A0_0 l0_0.length c0_0, .slice A3 l3.length c3]) (ok := (fun k_ => ((P0_0_ k_ ∨ P3_ k_) ∨ w.heap.size ≤ k_) ∧ k_ ≠ gb601 ∧ k_ ≠ gb602 ∧ k_ ≠ gb603)) (okp := (fun k_ => ((P0_0_ k_ ∨ P3_ k_) ∨ w.heap.size ≤ k_) ∧ k_ ≠ gb601 ∧ k_ ≠ gb602 ∧ k_ ≠ gb603)) ?hr ?hp (fun _ hk => hk) ((show ∀ k_, w68.heap.size ≤ k_ → (fun k_ => ((P0_0_ k_ ∨ P3_ k_) ∨ w.heap.size ≤ k_) ∧ k_ ≠ gb601 ∧ k_ ≠ gb602 ∧ k_ ≠ gb603) k_ from fun k_ hk => ⟨(.inr (Nat.le_trans (sz_ HB) hk)), Kd.freshB (kb_ BK601.out) k_ hk, Kd.freshB (kb_ BK602.out) k_ hk, Kd.freshB (kb_ BK603.out) k_ hk⟩) _ (Nat.le_refl _)) (Below.refl _ _) (Nat.le_refl _) (by simp) ?_; (case hd => rfl); (case hg => rfl); (case hr => first | (go_simp; done) | (go_simp; rfl)); (case hp => exact (Reps.one (show Kd.FK (Kd.slice 9 Kd.string) _ _ l0_0 [.slice A0_0 l0_0.length c0_0] from (Kd.FK_slice_mk (Kd.V_reads' (Kd.V_mono (ok' := (fun k_ => ((P0_0_ k_ ∨ P3_ k_) ∨ w.heap.size ≤ k_) ∧ k_ ≠ gb601 ∧ k_ ≠ gb602 ∧ k_ ≠ gb603)) (HO_602000.out) (fun k_ hk => ⟨hk.1, ⟨hk.2.1, ⟨hk.2.2.1, hk.2.2.2⟩⟩⟩))).2.1 (Kd.V_F (Kd.V_mono (ok' := (fun k_ => ((P0_0_ k_ ∨ P3_ k_) ∨ w.heap.size ≤ k_) ∧ k_ ≠ gb601 ∧ k_ ≠ gb602 ∧ k_ ≠ gb603)) (HO_602000.out) (fun k_ hk => ⟨hk.1, ⟨hk.2.1, ⟨hk.2.2.1, hk.2.2.2⟩⟩⟩))))) (Reps.one (show Kd.FK (Kd.slice 9 Kd.string) _ _ l3 [.slice A3 l3.length c3] from (Kd.FK_slice_mk (Kd.V_reads' (Kd.V_mono (ok' := (fun k_ => ((P0_0_ k_ ∨ P3_ k_) ∨ w.heap.size ≤ k_) ∧ k_ ≠ gb601 ∧ k_ ≠ gb602 ∧ k_ ≠ gb603)) (HO_3.out) (fun k_ hk => ⟨hk.1, ⟨hk.2.1, ⟨hk.2.2.1, hk.2.2.2⟩⟩⟩))).2.1 (Kd.V_F (Kd.V_mono (ok' := (fun k_ => ((P0_0_ k_ ∨ P3_ k_) ∨ w.heap.size ≤ k_) ∧ k_ ≠ gb601 ∧ k_ ≠ gb602 ∧ k_ ≠ gb603)) (HO_3.out) (fun k_ hk => ⟨hk.1, ⟨hk.2.1, ⟨hk.2.2.1, hk.2.2.2⟩⟩⟩))))) (Reps.none _ _)))); intro v622 w71 ho72 hb hg_ hnew_; clear hg_ hnew_; (first | rw [← Ny621.out] at ho72 | (simp only [Int.reduceToNat] at ho72; rw [← Ny621.out] at ho72)); replace HO_3 := Aside0.mk (Kd.V_elder' (by (with_reducible repeat (first | apply Kd.V_alloc | apply Kd.V_drewN | apply Kd.V_drew)); exact HO_3.out) (Kd.N_base ho72) hb); replace HO_602000 := Aside0.mk (Kd.V_elder' (by (with_reducible repeat (first | apply Kd.V_alloc | apply Kd.V_drewN | apply Kd.V_drew)); exact HO_602000.out) (Kd.N_base ho72) hb); have HO623 := Aside0.mk (Kd.N_lower ho72 (sz_ HB)); replace BK601 := kl_ BK601 hb; replace BK602 := kl_ BK602 hb; replace BK603 := kl_ BK603 hb; replace HB := ss_ HB hb; clear hb ho72; obtain ⟨Ao73, co73, eo73⟩ := Kd.N_slice HO623.out; subst eo73) | ((with_reducible refine gq_ 106 45 ?_); refine gc_ 45 Try.func106 (slices_Concat_string_string.calls kj4 _ _ y621 t624 _ (cr_ (Kd.N_reads' HO623.out).2.2) ((Kd.N_reads' HO623.out).2.1) A44.out) ?_; rintro e w74 ⟨v625, rfl, ho0, hb⟩; refine ⟨_, rfl, ?_⟩; replace HO_3 := Aside0.mk (Kd.V_elder' (by (with_reducible repeat (first | apply Kd.V_alloc | apply Kd.V_drewN | apply Kd.V_drew)); exact HO_3.out) (Kd.R_base ho0) hb); replace HO_602000 := Aside0.mk (Kd.V_elder' (by (with_reducible repeat (first | apply Kd.V_alloc | apply Kd.V_drewN | apply Kd.V_drew)); exact HO_602000.out) (Kd.R_base ho0) hb); replace HO623 := Aside0.mk (Kd.N_elder' (by (with_reducible repeat (first | apply Kd.N_alloc | apply Kd.N_drewN | apply Kd.N_drew)); exact HO623.out) (Kd.R_base ho0) hb); have HO626 := Aside0.mk (Kd.R_lower (Kd.R_newM (M := fun k_ => (w.heap.size ≤ k_)) ho0 (sz_ HB) (fun k_ h_ => h_)) (sz_ HB)); replace BK601 := kl_ BK601 hb; replace BK602 := kl_ BK602 hb; replace BK603 := kl_ BK603 hb; replace HB := ss_ HB hb; clear hb ho0))
       replace HO_3 := Aside0.mk (Kd.V_drew HO_3.out)
       replace HO_602000 := Aside0.mk (Kd.V_drew HO_602000.out)
       replace HO623 := Aside0.mk (Kd.N_drew HO623.out)
       replace HO626 := Aside0.mk (Kd.R_drew HO626.out)
       replace BK601 := Aside0.mk (blk_drew BK601.out)
       replace BK602 := Aside0.mk (blk_drew BK602.out)
       replace BK603 := Aside0.mk (blk_drew BK603.out)
       replace HB := Aside0.mk (below_drew1 HB.out)
       obtain ⟨Ao76, co76, eo76⟩ := Kd.R_slice HO626.out
       (first | subst eo76 | (injection eo76 with f1_ f2_ f3_; have f4_ := f1_.symm; have f5_ := f3_.symm; clear f1_ f2_ f3_; subst f4_; subst f5_))
       refine start_ (n := 4) (S := fun w' => w'.cell? ⟨gb602, 0, none⟩ = some (.int .i64 a2_0) ∧ w'.cell? ⟨gb602, 1, none⟩ = some (.string a2_1)) (ds := []) (lz_ 4 0) (by kernel_rfl) rfl rfl ⟨bc0_ BK602.out, bc1_ BK602.out⟩ (fun hHeld => ?_)
       generalize w74.drew = w75 at HO_3 HO_602000 HO623 HO626 BK601 BK602 BK603 HB hHeld ⊢
       refine pk_ 0 46 1 ?_
       refine tk_ 2 48 5 ?_
       refine one_ (i := 1) (N := some 47) (lz_ 4 7) rfl rfl (by kernel_rfl) (by decide) (fun K hK => ?_)
       refine gf_ Try.func12 (impl_HeadOf.calls kj4 _ _ t624 t627 t628 _ (ch_ HO626) (cl_ HO626) A45.out) ?_
       rintro e w77 ⟨rfl, hb⟩
       refine ⟨_, rfl, ?_⟩
       replace HO_3 := Aside0.mk (Kd.V_below (by (with_reducible repeat (first | apply Kd.V_alloc | apply Kd.V_drewN | apply Kd.V_drew)); exact HO_3.out) hb)
       replace HO_602000 := Aside0.mk (Kd.V_below (by (with_reducible repeat (first | apply Kd.V_alloc | apply Kd.V_drewN | apply Kd.V_drew)); exact HO_602000.out) hb)
       replace HO623 := Aside0.mk (Kd.N_below (by (with_reducible repeat (first | apply Kd.N_alloc | apply Kd.N_drewN | apply Kd.N_drew)); exact HO623.out) hb)
       replace HO626 := rb_ HO626 hb
       replace BK601 := kl_ BK601 hb
       replace BK602 := kl_ BK602 hb
       replace BK603 := kl_ BK603 hb
       replace HB := ss_ HB hb
       clear hb
       refine hK.out _ _ ⟨bc0_ BK602.out, bc1_ BK602.out⟩ (fun hHeld => ?_)
       clear hK K
       refine no_ 47 ?_
       refine pk_ 3 49 15 ?_
       refine done_ (by kernel_rfl) ?_
       have hz78 := cz2_ BK602
       have hz79 := cz3_ BK603
       try go_wp2
       refine bodyPost_ret (results_ct rfl _ _ gb603 31 #[.slice Ao76 t624.length co76, .int .i64 a2_0, .string a2_1] (0, 0) _ rfl (by exact kq_ BK603) Try.underlying31 rfl (by kernel_rfl)) rfl ?_
       exact ⟨_, e2_, by (with_reducible repeat (first | apply Kd.R_alloc | apply Kd.R_drewN | apply Kd.R_drew)); exact Kd.R_mono (Kd.R_far (p := ⟨gb603, 2, none⟩) (Kd.R_far (p := ⟨gb603, 1, none⟩) (Kd.R_far (p := ⟨gb603, 0, none⟩) (Kd.R_types HO626.out BK603.out (by decide)) (fun _ hk => hk.2) (.slice Ao76 t624.length co76)) (fun _ hk => hk.2) (.int .i64 a2_0)) (fun _ hk => hk.2) (.string a2_1)) (fun _ hk => hk.1.1), bw_ HB⟩
    ·replace H := bi_ H; obtain ⟨⟨t616, t619, t620⟩, A80, H⟩ := H
     dsimp only at H
     replace H := so4_ H; obtain ⟨rfl, rfl, rfl, rfl⟩ := H
     have hnb81 := NB602_601.out
     have hnc81 := NB601_602.out
     have hnb82 := NB602_603.out
     have hnc82 := NB603_602.out
     have hz83 := cz2_ BK602
     go_wp2_with (first | ((with_reducible refine gq_ 22 31 ?_); refine gc_ 31 Try.func22 (impl_IsSigned.calls kj4 _ _ l1 a2_0 a2_1 false _ (cb_ HR1 HB) HC1.out A31.out) ?_; rintro e w84 ⟨rfl, hb⟩; refine ⟨_, rfl, ?_⟩; replace HO_3 := Aside0.mk (Kd.V_below (by (with_reducible repeat (first | apply Kd.V_alloc | apply Kd.V_drewN | apply Kd.V_drew)); exact HO_3.out) hb); replace HO_602000 := Aside0.mk (Kd.V_below (by (with_reducible repeat (first | apply Kd.V_alloc | apply Kd.V_drewN | apply Kd.V_drew)); exact HO_602000.out) hb); replace BK601 := kl_ BK601 hb; replace BK602 := kl_ BK602 hb; replace BK603 := kl_ BK603 hb; replace HB := ss_ HB hb; clear hb; have hnb85 := NB601_603.out; have hnc85 := NB603_601.out; have hz86 := cz3_ BK601) | ((with_reducible refine gq_ 63 34 ?_); refine gc_ 34 Try.func63 (impl_copyLog.calls _ _ l0_0 a0_1 a0_2 t616 t619 t620 _ (cr_ (Kd.V_reads' HO_602000.out).2.2) ((Kd.V_reads' HO_602000.out).2.1) A80.out) ?_; rintro e w87 ⟨v617, rfl, ho0, hb⟩; refine ⟨_, rfl, ?_⟩; replace HO_3 := Aside0.mk (Kd.V_elder' (by (with_reducible repeat (first | apply Kd.V_alloc | apply Kd.V_drewN | apply Kd.V_drew)); exact HO_3.out) (Kd.R_base ho0) hb); replace HO_602000 := Aside0.mk (Kd.V_elder' (by (with_reducible repeat (first | apply Kd.V_alloc | apply Kd.V_drewN | apply Kd.V_drew)); exact HO_602000.out) (Kd.R_base ho0) hb); have HO618 := Aside0.mk (Kd.R_lower (Kd.R_newM (M := fun k_ => (w.heap.size ≤ k_)) ho0 (sz_ HB) (fun k_ h_ => h_)) (sz_ HB)); replace BK601 := kl_ BK601 hb; replace BK602 := kl_ BK602 hb; replace BK603 := kl_ BK603 hb; replace HB := ss_ HB hb; clear hb ho0; obtain ⟨Ao88, co88, eo88⟩ := Kd.R_slice HO618.out; subst eo88; have hz89 := cz3_ BK603))
     refine bodyPost_ret (results_ct rfl _ _ gb603 31 #[.slice Ao88 t616.length co88, .int .i64 t619, .string t620] (0, 0) _ rfl (by exact kq_ BK603) Try.underlying31 rfl (by kernel_rfl)) rfl ?_
     exact ⟨_, e2_, by (with_reducible repeat (first | apply Kd.R_alloc | apply Kd.R_drewN | apply Kd.R_drew)); exact Kd.R_mono (Kd.R_far (p := ⟨gb603, 2, none⟩) (Kd.R_far (p := ⟨gb603, 1, none⟩) (Kd.R_far (p := ⟨gb603, 0, none⟩) (Kd.R_types HO618.out BK603.out (by decide)) (fun _ hk => hk.2) (.slice Ao88 t616.length co88)) (fun _ hk => hk.2) (.int .i64 t619)) (fun _ hk => hk.2) (.string t620)) (fun _ hk => hk.1.1), bw_ HB⟩
end Go.Proofs.Ytjnnglphdaemaaa.Q
end

section
-- Written by a program of this session (wip/tools/pp.sh) over the print of the kit.
namespace Go.Proofs.Ytjnnglphdaemaaa.Q
open Go.RowKit Go.Proofs.YtjnnglphdaemaaaW.PrintWords Go.Proofs.YtjnnglphdaemaaaW.PrintLast Go.Proofs.YtjnnglphdaemaaaW.PrintMore
attribute [local go_sem] max2_int min2_int max_two min_two max_three min_three max_four min_four   -- for this text's walks alone
set_option linter.unusedVariables false
set_option linter.unusedSimpArgs false
def impl_Extend.f (k : Nat) (l0_0 : List ByteArray) (a0_1 : Int) (a0_2 : ByteArray) (l1 : List (S28)) (a2_0 : Int) (a2_1 : ByteArray) (l3 : List ByteArray) : Option (List ByteArray × Int × ByteArray × Int) := (impl_LogOk.f k l0_0 a0_1 a0_2).bind fun t604 => (if t604 = true then ((impl_extend.f k l0_0 a0_1 a0_2 l1 a2_0 a2_1 l3).bind fun bt605 => (some (bt605.1, bt605.2.1, bt605.2.2.1, bt605.2.2.2))) else ((impl_copyLog.f l0_0 a0_1 a0_2).bind fun bt611 => (some (bt611.1, bt611.2.1, bt611.2.2, 1))))
set_option maxHeartbeats 8000000 in
set_option maxRecDepth 100000 in
theorem impl_Extend.calls (k : Nat) (A0_0 : Option Addr) (c0_0 : Nat) (l0_0 : List ByteArray) (a0_1 : Int) (a0_2 : ByteArray) (A1 : Option Addr) (c1 : Nat) (l1 : List (S28)) (a2_0 : Int) (a2_1 : ByteArray) (A3 : Option Addr) (c3 : Nat) (l3 : List ByteArray) (r1 : List ByteArray) (r2 : Int) (r3 : ByteArray) (r4 : Int) (w : World) (hr0_0 : Kd.C Kd.string w A0_0 l0_0.length l0_0) (hc0_0 : l0_0.length ≤ c0_0) (hr1 : Kd.C k28 w A1 l1.length l1) (hc1 : l1.length ≤ c1) (hr3 : Kd.C Kd.string w A3 l3.length l3) (hc3 : l3.length ≤ c3) (h : impl_Extend.f k l0_0 a0_1 a0_2 l1 a2_0 a2_1 l3 = some (r1, r2, r3, r4)) :
  Calls Try.prog 13 #[.agg #[.slice A0_0 l0_0.length c0_0, .int .i64 a0_1, .string a0_2], .slice A1 l1.length c1, .agg #[.int .i64 a2_0, .string a2_1], .slice A3 l3.length c3] w fun e w' => ∃ v0_ : Value, e = .returned (.tuple #[.agg #[v0_, .int .i64 r2, .string r3], .int .i64 r4]) ∧ Kd.R Kd.string 9 w' w.heap.size (fun _ => True) v0_ r1 ∧ Below w.heap.size w w' := by
 have hu31 := Try.underlying31
 have hu28 := Try.underlying28
 have HR0_0 := Aside0.mk hr0_0
 have HC0_0 := Aside0.mk hc0_0
 clear hr0_0 hc0_0
 have HR1 := Aside0.mk hr1
 have HC1 := Aside0.mk hc1
 clear hr1 hc1
 have HR3 := Aside0.mk hr3
 have HC3 := Aside0.mk hc3
 clear hr3 hc3
 have HB := Aside0.mk (Below.refl w.heap.size w)
 have H : ((impl_LogOk.f k l0_0 a0_1 a0_2).bind fun t604 => (if t604 = true then ((impl_extend.f k l0_0 a0_1 a0_2 l1 a2_0 a2_1 l3).bind fun bt605 => (some (bt605.1, bt605.2.1, bt605.2.2.1, bt605.2.2.2))) else ((impl_copyLog.f l0_0 a0_1 a0_2).bind fun bt611 => (some (bt611.1, bt611.2.1, bt611.2.2, 1))))) = some (r1, r2, r3, r4) := h
 clear h
 replace H := bi_ H; obtain ⟨t604, A5, H⟩ := H
 replace H := itb_ H; obtain ⟨rfl, H⟩ | ⟨rfl, H⟩ := H
 ·replace H := bi_ H; obtain ⟨⟨t605, t608, t609, t610⟩, A7, H⟩ := H
  dsimp only at H
  replace H := so4_ H; obtain ⟨rfl, rfl, rfl, rfl⟩ := H
  go_enter Try.func13, Try.ntmps13
  go_wp2_with (first | ((with_reducible refine gd_ 4 ?_); refine bx_ 4 31 #[.slice A0_0 l0_0.length c0_0, .int .i64 a0_1, .string a0_2] ?_; intro gb601 hg w8 hbox hb; have BK601 := Aside0.mk hbox; have GW601 := gg_ hg HB; have GE601 := GW601; replace HB := ss_ HB hb; clear hb hbox hg) | ((with_reducible refine gd_ 6 ?_); refine bx_ 6 28 #[.int .i64 a2_0, .string a2_1] ?_; intro gb602 hg w9 hbox hb; have BK602 := Aside0.mk hbox; have GW602 := gg_ hg HB; have GE602 := GW602; replace HB := ss_ HB hb; have NB601_602 := nla_ hg BK601; have NB602_601 := nga_ hg BK601; replace BK601 := kl_ BK601 hb; clear hb hbox hg) | ((with_reducible refine gd_ 8 ?_); refine bx_ 8 31 #[.slice none 0 0, .int .i64 0, .string (⟨#[]⟩ : ByteArray)] ?_; intro gb603 hg w10 hbox hb; have BK603 := Aside0.mk hbox; have GW603 := gg_ hg HB; have GE603 := GW603; replace HB := ss_ HB hb; have NB601_603 := nla_ hg BK601; have NB603_601 := nga_ hg BK601; replace BK601 := kl_ BK601 hb; have NB602_603 := nla_ hg BK602; have NB603_602 := nga_ hg BK602; replace BK602 := kl_ BK602 hb; clear hb hbox hg; have hnb11 := NB601_602.out; have hnc11 := NB602_601.out; have hnb12 := NB601_603.out; have hnc12 := NB603_601.out; have hz13 := cz3_ BK601) | ((with_reducible refine gq_ 17 11 ?_); refine gc_ 11 Try.func17 (impl_LogOk.calls k _ _ l0_0 a0_1 a0_2 true _ (cb_ HR0_0 HB) HC0_0.out A5.out) ?_; rintro e w14 ⟨rfl, hb⟩; refine ⟨_, rfl, ?_⟩; replace BK601 := kl_ BK601 hb; replace BK602 := kl_ BK602 hb; replace BK603 := kl_ BK603 hb; replace HB := ss_ HB hb; clear hb; have hz15 := cz3_ BK601; have hnb16 := NB602_603.out; have hnc16 := NB603_602.out; have hz17 := cz2_ BK602) | ((with_reducible refine gq_ 64 19 ?_); refine gc_ 19 Try.func64 (impl_extend.calls k (fun k_ => k_ < w.heap.size) _ _ l0_0 a0_1 a0_2 _ _ l1 a2_0 a2_1 (fun k_ => k_ < w.heap.size) _ _ l3 t605 t608 t609 t610 _ (Kd.V_mk HC0_0.out (Kd.F_below (Kd.C_F Kd.heap_string HR0_0.out) (bw_ HB))) (cb_ HR1 HB) HC1.out (Kd.V_mk HC3.out (Kd.F_below (Kd.C_F Kd.heap_string HR3.out) (bw_ HB))) A7.out) ?_; rintro e w18 ⟨v606, rfl, ho0, hb⟩; refine ⟨_, rfl, ?_⟩; have HO607 := Aside0.mk (Kd.R_lower (Kd.R_mono (ok' := fun k_ => True) ho0 (fun _ hk_ => trivial)) (sz_ HB)); replace BK601 := kl_ BK601 hb; replace BK602 := kl_ BK602 hb; replace BK603 := kl_ BK603 hb; replace HB := ss_ HB hb; clear hb ho0; obtain ⟨Ao19, co19, eo19⟩ := Kd.R_slice HO607.out; subst eo19; have hz20 := cz3_ BK603))
  refine bodyPost_ret (results_ct rfl _ _ gb603 31 #[.slice Ao19 t605.length co19, .int .i64 t608, .string t609] (0, 0) _ rfl (by exact kq_ BK603) Try.underlying31 rfl (by kernel_rfl)) rfl ?_
  exact ⟨_, e2_, by (with_reducible repeat (first | apply Kd.R_alloc | apply Kd.R_drewN | apply Kd.R_drew)); exact Kd.R_mono (Kd.R_far (p := ⟨gb603, 2, none⟩) (Kd.R_far (p := ⟨gb603, 1, none⟩) (Kd.R_far (p := ⟨gb603, 0, none⟩) (Kd.R_types HO607.out BK603.out (by decide)) (fun _ hk => hk.2) (.slice Ao19 t605.length co19)) (fun _ hk => hk.2) (.int .i64 t608)) (fun _ hk => hk.2) (.string t609)) (fun _ hk => trivial), bw_ HB⟩
 ·replace H := bi_ H; obtain ⟨⟨t611, t614, t615⟩, A21, H⟩ := H
  dsimp only at H
  replace H := so4_ H; obtain ⟨rfl, rfl, rfl, rfl⟩ := H
  go_enter Try.func13, Try.ntmps13
  go_wp2_with (first | ((with_reducible refine gd_ 4 ?_); refine bx_ 4 31 #[.slice A0_0 l0_0.length c0_0, .int .i64 a0_1, .string a0_2] ?_; intro gb601 hg w22 hbox hb; have BK601 := Aside0.mk hbox; have GW601 := gg_ hg HB; have GE601 := GW601; replace HB := ss_ HB hb; clear hb hbox hg) | ((with_reducible refine gd_ 6 ?_); refine bx_ 6 28 #[.int .i64 a2_0, .string a2_1] ?_; intro gb602 hg w23 hbox hb; have BK602 := Aside0.mk hbox; have GW602 := gg_ hg HB; have GE602 := GW602; replace HB := ss_ HB hb; have NB601_602 := nla_ hg BK601; have NB602_601 := nga_ hg BK601; replace BK601 := kl_ BK601 hb; clear hb hbox hg) | ((with_reducible refine gd_ 8 ?_); refine bx_ 8 31 #[.slice none 0 0, .int .i64 0, .string (⟨#[]⟩ : ByteArray)] ?_; intro gb603 hg w24 hbox hb; have BK603 := Aside0.mk hbox; have GW603 := gg_ hg HB; have GE603 := GW603; replace HB := ss_ HB hb; have NB601_603 := nla_ hg BK601; have NB603_601 := nga_ hg BK601; replace BK601 := kl_ BK601 hb; have NB602_603 := nla_ hg BK602; have NB603_602 := nga_ hg BK602; replace BK602 := kl_ BK602 hb; clear hb hbox hg; have hnb25 := NB601_602.out; have hnc25 := NB602_601.out; have hnb26 := NB601_603.out; have hnc26 := NB603_601.out; have hz27 := cz3_ BK601) | ((with_reducible refine gq_ 17 11 ?_); refine gc_ 11 Try.func17 (impl_LogOk.calls k _ _ l0_0 a0_1 a0_2 false _ (cb_ HR0_0 HB) HC0_0.out A5.out) ?_; rintro e w28 ⟨rfl, hb⟩; refine ⟨_, rfl, ?_⟩; replace BK601 := kl_ BK601 hb; replace BK602 := kl_ BK602 hb; replace BK603 := kl_ BK603 hb; replace HB := ss_ HB hb; clear hb; have hz29 := cz3_ BK601) | ((with_reducible refine gq_ 63 14 ?_); refine gc_ 14 Try.func63 (impl_copyLog.calls _ _ l0_0 a0_1 a0_2 t611 t614 t615 _ (cb_ HR0_0 HB) HC0_0.out A21.out) ?_; rintro e w30 ⟨v612, rfl, ho0, hb⟩; refine ⟨_, rfl, ?_⟩; have HO613 := Aside0.mk (Kd.R_lower ho0 (sz_ HB)); replace BK601 := kl_ BK601 hb; replace BK602 := kl_ BK602 hb; replace BK603 := kl_ BK603 hb; replace HB := ss_ HB hb; clear hb ho0; obtain ⟨Ao31, co31, eo31⟩ := Kd.R_slice HO613.out; subst eo31; have hnb32 := NB603_602.out; have hnc32 := NB602_603.out; have hz33 := cz3_ BK603))
  refine bodyPost_ret (results_ct rfl _ _ gb603 31 #[.slice Ao31 t611.length co31, .int .i64 t614, .string t615] (0, 0) _ rfl (by exact kq_ BK603) Try.underlying31 rfl (by kernel_rfl)) rfl ?_
  exact ⟨_, e2_, by (with_reducible repeat (first | apply Kd.R_alloc | apply Kd.R_drewN | apply Kd.R_drew)); exact Kd.R_mono (Kd.R_far (p := ⟨gb603, 2, none⟩) (Kd.R_far (p := ⟨gb603, 1, none⟩) (Kd.R_far (p := ⟨gb603, 0, none⟩) (Kd.R_types HO613.out BK603.out (by decide)) (fun _ hk => hk.2) (.slice Ao31 t611.length co31)) (fun _ hk => hk.2) (.int .i64 t614)) (fun _ hk => hk.2) (.string t615)) (fun _ hk => trivial), bw_ HB⟩
end Go.Proofs.Ytjnnglphdaemaaa.Q
end

section
/- Extend, the program's and the reference's: they return the same. -/
namespace Go.Proofs.Ytjnnglphdaemaaa.Q
open Go.RowKit Go.Proofs.Ytjnnglphdaemaaa.B Go.Proofs.YtjnnglphdaemaaaW.PrintWords
set_option linter.unusedVariables false
def isHead (l : List ByteArray) (a : Int) (z : ByteArray) : Bool := a == (headOf l).1 && (z.toList == (headOf l).2.toList)
def extOf (t : List IHead) (l : List ByteArray) (n : Int) (s : ByteArray) (a : Int) (z : ByteArray) (x : List ByteArray) : List ByteArray × Int × ByteArray × Int :=
 if (headOk a z && (a == ((l.length + x.length : Nat) : Int))) = true then
  (if hasHead t a z = true then (if x.length = 0 then (l, n, s, 3) else (if isHead (l ++ x) a z = true then (l ++ x, a, z, 0) else (l, n, s, 4))) else (l, n, s, 2))
 else (l, n, s, 1)
def extendOf (t : List IHead) (l : List ByteArray) (n : Int) (s : ByteArray) (a : Int) (z : ByteArray) (x : List ByteArray) : List ByteArray × Int × ByteArray × Int :=
 if logOk l n s = true then extOf t l n s a z x else (l, n, s, 1)
theorem ne_head (a b : Int) (u v : List UInt8) : (!(a == b) || !(u == v)) = !(a == b && (u == v)) := by simp
theorem head_sym (a b : Int) (u v : List UInt8) : (a == b && (u == v)) = (b == a && (v == u)) := by rw [Bool.beq_comm (a := a), Bool.beq_comm (a := u)]
theorem extend_j0S (t : List IHead) (l : List ByteArray) (n : Int) (s : ByteArray) (a : Int) (z : ByteArray) (x : List ByteArray) (ht : t.length ≤ 9223372036854775807) (hs : ∀ y ∈ l ++ x, y.size ≤ bigB) (hf : Bool) :
  Ev (fun k => spec_Extend.j0 k t x (l ++ x) hf a z l n s) (if hf = true then (l, n, s, 1) else (if hasHead t a z = true then (if x.length = 0 then (l, n, s, 3) else (if isHead (l ++ x) a z = true then (l ++ x, a, z, 0) else (l, n, s, 4))) else (l, n, s, 2))) := by
 refine Ev.step (fun k => by simp only [spec_Extend.j0]; rfl) ?_
 cases hf with
 | true => exact Ev.pos rfl (Ev.now _)
 | false =>
  refine Ev.neg (by simp) (Ev.bind (spec_IsSigned_ev t a z ht) ?_)
  rw [if_neg (by simp)]
  by_cases h1 : hasHead t a z = true
  ·rw [if_pos h1]
   refine Ev.pos h1 ?_
   by_cases h2 : x.length = 0
   ·rw [if_pos h2]
    exact Ev.pos (by omega) (Ev.now _)
   ·rw [if_neg h2]
    refine Ev.neg (by omega) (Ev.bind (spec_HeadOf_ev (l ++ x) hs) ?_)
    rw [ne_head]
    by_cases h3 : isHead (l ++ x) a z = true
    ·rw [if_pos h3]
     exact Ev.neg (by unfold isHead at h3; rw [h3]; simp) (Ev.now _)
    ·rw [if_neg h3]
     exact Ev.pos (by unfold isHead at h3; rw [Bool.eq_false_iff.mpr h3]; rfl) (Ev.now _)
  ·rw [if_neg h1]
   exact Ev.neg h1 (Ev.now _)
theorem extend_j0I (t : List IHead) (l : List ByteArray) (n : Int) (s : ByteArray) (a : Int) (z : ByteArray) (x : List ByteArray) (ht : t.length ≤ 9223372036854775807) (hs : ∀ y ∈ l ++ x, y.size ≤ bigB) (hl : l.length + x.length ≤ 1000000000) (hf : Bool) :
  Ev (fun k => impl_extend.j0 k t x hf l n s a z) (if hf = true then (l, n, s, 1) else (if hasHead t a z = true then (if x.length = 0 then (l, n, s, 3) else (if isHead (l ++ x) a z = true then (l ++ x, a, z, 0) else (l, n, s, 4))) else (l, n, s, 2))) := by
 have hc := impl_copyLog_eq l n s (by omega)
 refine Ev.step (fun k => by simp only [impl_extend.j0]; rfl) ?_
 cases hf with
 | true => exact Ev.pos rfl (Ev.bind (Ev.const hc) (Ev.now _))
 | false =>
  refine Ev.neg (by simp) (Ev.bind (impl_IsSigned_ev t a z ht) ?_)
  rw [if_neg (by simp)]
  by_cases h1 : hasHead t a z = true
  ·rw [if_pos h1]
   refine Ev.pos h1 ?_
   by_cases h2 : x.length = 0
   ·rw [if_pos h2]
    exact Ev.pos (by omega) (Ev.bind (Ev.const hc) (Ev.now _))
   ·rw [if_neg h2]
    refine Ev.neg (by omega) (Ev.bind (concat_ev l x hl (by omega)) (Ev.bind (impl_HeadOf_ev (l ++ x) hs) ?_))
    rw [ne_head, head_sym]
    by_cases h3 : isHead (l ++ x) a z = true
    ·rw [if_pos h3]
     exact Ev.neg (by unfold isHead at h3; rw [h3]; simp) (Ev.now _)
    ·rw [if_neg h3]
     exact Ev.pos (by unfold isHead at h3; rw [Bool.eq_false_iff.mpr h3]; rfl) (Ev.bind (Ev.const hc) (Ev.now _))
  ·rw [if_neg h1]
   exact Ev.neg h1 (Ev.bind (Ev.const hc) (Ev.now _))
theorem ext_form (t : List IHead) (l : List ByteArray) (n : Int) (s : ByteArray) (a : Int) (z : ByteArray) (x : List ByteArray) :
  extOf t l n s a z x = (if headOk a z = true then (if (a != ((l.length + x.length : Nat) : Int)) = true then (l, n, s, 1) else (if hasHead t a z = true then (if x.length = 0 then (l, n, s, 3) else (if isHead (l ++ x) a z = true then (l ++ x, a, z, 0) else (l, n, s, 4))) else (l, n, s, 2))) else (l, n, s, 1)) := by
 unfold extOf
 cases headOk a z <;> by_cases h : a = ((l.length + x.length : Nat) : Int) <;> simp [h]
theorem spec_Extend_ev (t : List IHead) (l : List ByteArray) (n : Int) (s : ByteArray) (a : Int) (z : ByteArray) (x : List ByteArray) (ht : t.length ≤ 9223372036854775807) (hs : ∀ y ∈ l ++ x, y.size ≤ bigB) (hl : l.length + x.length ≤ 1000000000) :
  Ev (fun k => spec_Extend.f k l n s t a z x) (extendOf t l n s a z x) := by
 have hs0 : ∀ y ∈ l, y.size ≤ bigB := fun y hy => hs y (List.mem_append_left _ hy)
 unfold spec_Extend.f extendOf
 rw [spec_l11Copy_eq l n s (by omega)]
 simp only [Option.bind_some, List.length_nil, List.nil_append, List.length_append, Nat.zero_add]
 refine Ev.pos (by omega) (Ev.pos (by omega) (Ev.bind (spec_LogOk_ev l n s hs0) ?_))
 by_cases h0 : logOk l n s = true
 ·rw [if_pos h0, ext_form]
  refine Ev.pos h0 (Ev.bind (Ev.const (spec_HeadOk_eq a z)) ?_)
  by_cases h1 : headOk a z = true
  ·rw [if_pos h1]
   exact Ev.pos h1 (extend_j0S t l n s a z x ht hs _)
  ·rw [if_neg h1]
   exact Ev.neg h1 (Ev.one (extend_j0S t l n s a z x ht hs true) (by rw [if_pos rfl]))
 ·rw [if_neg h0]
  exact Ev.neg h0 (Ev.one (extend_j0S t l n s a z x ht hs true) (by rw [if_pos rfl]))
theorem impl_extend_ev (t : List IHead) (l : List ByteArray) (n : Int) (s : ByteArray) (a : Int) (z : ByteArray) (x : List ByteArray) (ht : t.length ≤ 9223372036854775807) (hs : ∀ y ∈ l ++ x, y.size ≤ bigB) (hl : l.length + x.length ≤ 1000000000) :
  Ev (fun k => impl_extend.f k l n s t a z x) (extOf t l n s a z x) := by
 unfold impl_extend.f
 rw [ext_form]
 refine Ev.bind (Ev.const (impl_HeadOk_eq a z)) ?_
 by_cases h1 : headOk a z = true
 ·rw [if_pos h1, w64 (x := (l.length : Int) + (x.length : Int)) (by omega) (by omega)]
  exact Ev.pos h1 (extend_j0I t l n s a z x ht hs hl _)
 ·rw [if_neg h1]
  exact Ev.neg h1 (Ev.one (extend_j0I t l n s a z x ht hs hl true) (by rw [if_pos rfl]))
theorem impl_Extend_ev (t : List IHead) (l : List ByteArray) (n : Int) (s : ByteArray) (a : Int) (z : ByteArray) (x : List ByteArray) (ht : t.length ≤ 9223372036854775807) (hs : ∀ y ∈ l ++ x, y.size ≤ bigB) (hl : l.length + x.length ≤ 1000000000) :
  Ev (fun k => impl_Extend.f k l n s t a z x) (extendOf t l n s a z x) := by
 have hs0 : ∀ y ∈ l, y.size ≤ bigB := fun y hy => hs y (List.mem_append_left _ hy)
 unfold impl_Extend.f extendOf
 refine Ev.bind (impl_LogOk_ev l n s hs0) ?_
 by_cases h0 : logOk l n s = true
 ·rw [if_pos h0]
  exact Ev.pos h0 (Ev.bind (impl_extend_ev t l n s a z x ht hs hl) (Ev.now _))
 ·rw [if_neg h0]
  exact Ev.neg h0 (Ev.bind (Ev.const (impl_copyLog_eq l n s (by omega))) (Ev.now _))
end Go.Proofs.Ytjnnglphdaemaaa.Q
end

section
-- Written by a program of this session (wip/tools/pp.sh) over the print of the kit.
namespace Go.Proofs.Ytjnnglphdaemaaa.Q
open Go.RowKit Go.Proofs.YtjnnglphdaemaaaW.PrintWords Go.Proofs.YtjnnglphdaemaaaW.PrintLast Go.Proofs.YtjnnglphdaemaaaW.PrintMore
attribute [local go_sem] max2_int min2_int max_two min_two max_three min_three max_four min_four   -- for this text's walks alone
set_option linter.unusedVariables false
set_option linter.unusedSimpArgs false
end Go.Proofs.Ytjnnglphdaemaaa.Q
end

section
-- Written by a program of this session (wip/tools/pp.sh) over the print of the kit.
namespace Go.Proofs.Ytjnnglphdaemaaa.Q
open Go.RowKit Go.Proofs.YtjnnglphdaemaaaW.PrintWords Go.Proofs.YtjnnglphdaemaaaW.PrintLast Go.Proofs.YtjnnglphdaemaaaW.PrintMore
attribute [local go_sem] max2_int min2_int max_two min_two max_three min_three max_four min_four   -- for this text's walks alone
set_option linter.unusedVariables false
set_option linter.unusedSimpArgs false
end Go.Proofs.Ytjnnglphdaemaaa.Q
end

section
/- Commits: their bytes, and what is put. Plain. -/
namespace Go.Proofs.Ytjnnglphdaemaaa.Q
open Go.RowKit Go.Proofs.Ytjnnglphdaemaaa.B Go.Proofs.YtjnnglphdaemaaaW.PrintWords Go.Proofs.YtjnnglphdaemaaaW.PrintMore
set_option linter.unusedVariables false
set_option linter.unusedSimpArgs false
def bodyB (n : Nat) (s : ByteArray) (t : List ByteArray) : List Int := num n ++ (textB s ++ textsB t)
def sumB (l : List Int) : List Int := bytesOf ((sha l).extract 0 4)
def commitB (n : Nat) (s : ByteArray) (t : List ByteArray) : List Int := num (bodyB n s t).length ++ (bodyB n s t ++ sumB (bodyB n s t))
end Go.Proofs.Ytjnnglphdaemaaa.Q
end

section
-- Written by a program of this session (wip/tools/pp.sh) over the print of the kit.
namespace Go.Proofs.Ytjnnglphdaemaaa.Q
open Go.RowKit Go.Proofs.YtjnnglphdaemaaaW.PrintWords Go.Proofs.YtjnnglphdaemaaaW.PrintLast Go.Proofs.YtjnnglphdaemaaaW.PrintMore
attribute [local go_sem] max2_int min2_int max_two min_two max_three min_three max_four min_four   -- for this text's walks alone
set_option linter.unusedVariables false
set_option linter.unusedSimpArgs false
end Go.Proofs.Ytjnnglphdaemaaa.Q
end

section
-- Written by a program of this session (wip/tools/pp.sh) over the print of the kit.
namespace Go.Proofs.Ytjnnglphdaemaaa.Q
open Go.RowKit Go.Proofs.YtjnnglphdaemaaaW.PrintWords Go.Proofs.YtjnnglphdaemaaaW.PrintLast Go.Proofs.YtjnnglphdaemaaaW.PrintMore
attribute [local go_sem] max2_int min2_int max_two min_two max_three min_three max_four min_four   -- for this text's walks alone
set_option linter.unusedVariables false
set_option linter.unusedSimpArgs false
end Go.Proofs.Ytjnnglphdaemaaa.Q
end

section
/- The program's GetCommit: what it reads is what was put, and it reads that. Plain. -/
namespace Go.Proofs.Ytjnnglphdaemaaa.Q
open Go.RowKit Go.Proofs.Ytjnnglphdaemaaa.B Go.Proofs.YtjnnglphdaemaaaW.PrintWords Go.Proofs.YtjnnglphdaemaaaW.PrintMore
set_option linter.unusedVariables false
set_option linter.unusedSimpArgs false
end Go.Proofs.Ytjnnglphdaemaaa.Q
end

section
-- Written by a program of this session (wip/tools/pp.sh) over the print of the kit.
namespace Go.Proofs.Ytjnnglphdaemaaa.Q
open Go.RowKit Go.Proofs.YtjnnglphdaemaaaW.PrintWords Go.Proofs.YtjnnglphdaemaaaW.PrintLast Go.Proofs.YtjnnglphdaemaaaW.PrintMore
attribute [local go_sem] max2_int min2_int max_two min_two max_three min_three max_four min_four   -- for this text's walks alone
set_option linter.unusedVariables false
set_option linter.unusedSimpArgs false
def lb (m : Nat) : Array Bool := ((List.range 42).map fun i => Nat.testBit m i).toArray
end Go.Proofs.Ytjnnglphdaemaaa.Q
end

section
/- The reference's GetCommit reads the same. Plain. -/
namespace Go.Proofs.Ytjnnglphdaemaaa.Q
open Go.RowKit Go.Proofs.Ytjnnglphdaemaaa.B Go.Proofs.YtjnnglphdaemaaaW.PrintWords Go.Proofs.YtjnnglphdaemaaaW.PrintMore
set_option linter.unusedVariables false
set_option linter.unusedSimpArgs false
end Go.Proofs.Ytjnnglphdaemaaa.Q
end

section
-- Written by a program of this session (wip/tools/pp.sh) over the print of the kit.
namespace Go.Proofs.Ytjnnglphdaemaaa.Q
open Go.RowKit Go.Proofs.YtjnnglphdaemaaaW.PrintWords Go.Proofs.YtjnnglphdaemaaaW.PrintLast Go.Proofs.YtjnnglphdaemaaaW.PrintMore
attribute [local go_sem] max2_int min2_int max_two min_two max_three min_three max_four min_four   -- for this text's walks alone
set_option linter.unusedVariables false
set_option linter.unusedSimpArgs false
end Go.Proofs.Ytjnnglphdaemaaa.Q
end

section
-- Written by a program of this session (wip/tools/pp.sh) over the print of the kit.
namespace Go.Proofs.Ytjnnglphdaemaaa.Q
open Go.RowKit Go.Proofs.YtjnnglphdaemaaaW.PrintWords Go.Proofs.YtjnnglphdaemaaaW.PrintLast Go.Proofs.YtjnnglphdaemaaaW.PrintMore
attribute [local go_sem] max2_int min2_int max_two min_two max_three min_three max_four min_four   -- for this text's walks alone
set_option linter.unusedVariables false
set_option linter.unusedSimpArgs false
end Go.Proofs.Ytjnnglphdaemaaa.Q
end

section
-- Written by a program of this session (wip/tools/pp.sh) over the print of the kit.
namespace Go.Proofs.Ytjnnglphdaemaaa.Q
open Go.RowKit Go.Proofs.YtjnnglphdaemaaaW.PrintWords Go.Proofs.YtjnnglphdaemaaaW.PrintLast Go.Proofs.YtjnnglphdaemaaaW.PrintMore
attribute [local go_sem] max2_int min2_int max_two min_two max_three min_three max_four min_four   -- for this text's walks alone
set_option linter.unusedVariables false
set_option linter.unusedSimpArgs false
end Go.Proofs.Ytjnnglphdaemaaa.Q
end

section
/- Whether two lists of texts are the same: the program's and the reference's answers are one. Plain. -/
namespace Go.Proofs.Ytjnnglphdaemaaa.Q
open Go.RowKit Go.Proofs.Ytjnnglphdaemaaa.B Go.Proofs.YtjnnglphdaemaaaW.PrintWords
set_option linter.unusedVariables false
set_option linter.unusedSimpArgs false
end Go.Proofs.Ytjnnglphdaemaaa.Q
end

section
-- Written by a program of this session (wip/tools/pp.sh) over the print of the kit.
namespace Go.Proofs.Ytjnnglphdaemaaa.Q
open Go.RowKit Go.Proofs.YtjnnglphdaemaaaW.PrintWords Go.Proofs.YtjnnglphdaemaaaW.PrintLast Go.Proofs.YtjnnglphdaemaaaW.PrintMore
attribute [local go_sem] max2_int min2_int max_two min_two max_three min_three max_four min_four   -- for this text's walks alone
set_option linter.unusedVariables false
set_option linter.unusedSimpArgs false
attribute [local go_sem high] eqA28
end Go.Proofs.Ytjnnglphdaemaaa.Q
end

section
-- Written by a program of this session (wip/tools/pp.sh) over the print of the kit.
namespace Go.Proofs.Ytjnnglphdaemaaa.Q
open Go.RowKit Go.Proofs.YtjnnglphdaemaaaW.PrintWords Go.Proofs.YtjnnglphdaemaaaW.PrintLast Go.Proofs.YtjnnglphdaemaaaW.PrintMore
attribute [local go_sem] max2_int min2_int max_two min_two max_three min_three max_four min_four   -- for this text's walks alone
set_option linter.unusedVariables false
set_option linter.unusedSimpArgs false
attribute [local go_sem high] eqA28
end Go.Proofs.Ytjnnglphdaemaaa.Q
end

section
-- Written by a program of this session (wip/tools/pp.sh) over the print of the kit.
namespace Go.Proofs.Ytjnnglphdaemaaa.Q
open Go.RowKit Go.Proofs.YtjnnglphdaemaaaW.PrintWords Go.Proofs.YtjnnglphdaemaaaW.PrintLast Go.Proofs.YtjnnglphdaemaaaW.PrintMore
attribute [local go_sem] max2_int min2_int max_two min_two max_three min_three max_four min_four   -- for this text's walks alone
set_option linter.unusedVariables false
set_option linter.unusedSimpArgs false
end Go.Proofs.Ytjnnglphdaemaaa.Q
end

section
/- Whether a store's bytes make its log: the program's loop and the reference's answer alike. Plain. -/
namespace Go.Proofs.Ytjnnglphdaemaaa.Q
open Go.RowKit Go.Proofs.Ytjnnglphdaemaaa.B Go.Proofs.YtjnnglphdaemaaaW.PrintWords Go.Proofs.YtjnnglphdaemaaaW.PrintMore
set_option linter.unusedVariables false
set_option linter.unusedSimpArgs false
theorem sizes_app {l t : List ByteArray} (h : ∀ x ∈ l, x.size ≤ bigB) (k : ∀ x ∈ t, x.size ≤ bigB) : ∀ x ∈ l ++ t, x.size ≤ bigB := fun x hx => (List.mem_append.1 hx).elim (h x) (k x)
end Go.Proofs.Ytjnnglphdaemaaa.Q
end

section
-- Written by a program of this session (wip/tools/pp.sh) over the print of the kit.
namespace Go.Proofs.Ytjnnglphdaemaaa.Q
open Go.RowKit Go.Proofs.YtjnnglphdaemaaaW.PrintWords Go.Proofs.YtjnnglphdaemaaaW.PrintLast Go.Proofs.YtjnnglphdaemaaaW.PrintMore
attribute [local go_sem] max2_int min2_int max_two min_two max_three min_three max_four min_four   -- for this text's walks alone
set_option linter.unusedVariables false
set_option linter.unusedSimpArgs false
end Go.Proofs.Ytjnnglphdaemaaa.Q
end

section
/- The reference's bytes of a commit. -/
namespace Go.Proofs.Ytjnnglphdaemaaa.Q
open Go.RowKit Go.Proofs.Ytjnnglphdaemaaa.B Go.Proofs.YtjnnglphdaemaaaW.PrintWords Go.Proofs.YtjnnglphdaemaaaW.PrintMore
set_option linter.unusedVariables false
end Go.Proofs.Ytjnnglphdaemaaa.Q
end

section
-- Written by a program of this session (wip/tools/pp.sh) over the print of the kit.
namespace Go.Proofs.Ytjnnglphdaemaaa.Q
open Go.RowKit Go.Proofs.YtjnnglphdaemaaaW.PrintWords Go.Proofs.YtjnnglphdaemaaaW.PrintLast Go.Proofs.YtjnnglphdaemaaaW.PrintMore
attribute [local go_sem] max2_int min2_int max_two min_two max_three min_three max_four min_four   -- for this text's walks alone
set_option linter.unusedVariables false
set_option linter.unusedSimpArgs false
end Go.Proofs.Ytjnnglphdaemaaa.Q
end

section
-- Written by a program of this session (wip/tools/pp.sh) over the print of the kit.
namespace Go.Proofs.Ytjnnglphdaemaaa.Q
open Go.RowKit Go.Proofs.YtjnnglphdaemaaaW.PrintWords Go.Proofs.YtjnnglphdaemaaaW.PrintLast Go.Proofs.YtjnnglphdaemaaaW.PrintMore
attribute [local go_sem] max2_int min2_int max_two min_two max_three min_three max_four min_four   -- for this text's walks alone
set_option linter.unusedVariables false
set_option linter.unusedSimpArgs false
end Go.Proofs.Ytjnnglphdaemaaa.Q
end

section
/- What copies of logs and stores return, the program's and the reference's. -/
namespace Go.Proofs.Ytjnnglphdaemaaa.Q
open Go.RowKit Go.Proofs.Ytjnnglphdaemaaa.B Go.Proofs.YtjnnglphdaemaaaW.PrintWords
end Go.Proofs.Ytjnnglphdaemaaa.Q
end

section
-- Written by a program of this session (wip/tools/pp.sh) over the print of the kit.
namespace Go.Proofs.Ytjnnglphdaemaaa.Q
open Go.RowKit Go.Proofs.YtjnnglphdaemaaaW.PrintWords Go.Proofs.YtjnnglphdaemaaaW.PrintLast Go.Proofs.YtjnnglphdaemaaaW.PrintMore
attribute [local go_sem] max2_int min2_int max_two min_two max_three min_three max_four min_four   -- for this text's walks alone
set_option linter.unusedVariables false
set_option linter.unusedSimpArgs false
end Go.Proofs.Ytjnnglphdaemaaa.Q
end

section
/- A new log: the program's and the reference's are one. Plain. -/
namespace Go.Proofs.Ytjnnglphdaemaaa.Q
open Go.RowKit Go.Proofs.Ytjnnglphdaemaaa.B Go.Proofs.YtjnnglphdaemaaaW.PrintWords Go.Proofs.YtjnnglphdaemaaaW.PrintMore
set_option linter.unusedVariables false
end Go.Proofs.Ytjnnglphdaemaaa.Q
end

section
-- Written by a program of this session (wip/tools/pp.sh) over the print of the kit.
namespace Go.Proofs.Ytjnnglphdaemaaa.Q
open Go.RowKit Go.Proofs.YtjnnglphdaemaaaW.PrintWords Go.Proofs.YtjnnglphdaemaaaW.PrintLast Go.Proofs.YtjnnglphdaemaaaW.PrintMore
attribute [local go_sem] max2_int min2_int max_two min_two max_three min_three max_four min_four   -- for this text's walks alone
set_option linter.unusedVariables false
set_option linter.unusedSimpArgs false
end Go.Proofs.Ytjnnglphdaemaaa.Q
end

section
-- Written by a program of this session (wip/tools/pp.sh) over the print of the kit.
namespace Go.Proofs.Ytjnnglphdaemaaa.Q
open Go.RowKit Go.Proofs.YtjnnglphdaemaaaW.PrintWords Go.Proofs.YtjnnglphdaemaaaW.PrintLast Go.Proofs.YtjnnglphdaemaaaW.PrintMore
attribute [local go_sem] max2_int min2_int max_two min_two max_three min_three max_four min_four   -- for this text's walks alone
set_option linter.unusedVariables false
set_option linter.unusedSimpArgs false
end Go.Proofs.Ytjnnglphdaemaaa.Q
end

section
/- A new store: the program's and the reference's are one. Plain. -/
namespace Go.Proofs.Ytjnnglphdaemaaa.Q
open Go.RowKit Go.Proofs.Ytjnnglphdaemaaa.B Go.Proofs.YtjnnglphdaemaaaW.PrintWords Go.Proofs.YtjnnglphdaemaaaW.PrintMore
set_option linter.unusedVariables false
end Go.Proofs.Ytjnnglphdaemaaa.Q
end

section
/- (*Store).commit, in place: what it makes of a store's block and its rows. -/
namespace Go.Proofs.Ytjnnglphdaemaaa.Q
open Go.RowKit Go.Proofs.YtjnnglphdaemaaaW.PrintWords Go.Proofs.YtjnnglphdaemaaaW.PrintLast Go.Proofs.YtjnnglphdaemaaaW.PrintMore
set_option linter.unusedVariables false
set_option linter.unusedSimpArgs false
end Go.Proofs.Ytjnnglphdaemaaa.Q
end

section
/- The program's OpenStore: the commits of bytes, one behind the other. -/
namespace Go.Proofs.Ytjnnglphdaemaaa.Q
open Go.RowKit Go.Proofs.YtjnnglphdaemaaaW.PrintWords Go.Proofs.YtjnnglphdaemaaaW.PrintLast Go.Proofs.YtjnnglphdaemaaaW.PrintMore
attribute [local go_sem] max2_int min2_int max_two min_two
set_option linter.unusedVariables false
set_option linter.unusedSimpArgs false
end Go.Proofs.Ytjnnglphdaemaaa.Q
end

section
/- A row far from two or three blocks of other types. -/
namespace Go.Proofs.Ytjnnglphdaemaaa.Q
open Go.RowKit Go.Proofs.YtjnnglphdaemaaaW.PrintWords Go.Proofs.YtjnnglphdaemaaaW.PrintLast Go.Proofs.YtjnnglphdaemaaaW.PrintMore
set_option linter.unusedVariables false
section
variable {α : Type} {d : Kd α} {e base : Nat} {ok : Nat → Prop} {w W : World} {v : Value} {xs : List α}
end
end Go.Proofs.Ytjnnglphdaemaaa.Q
end

section
-- Written by a program of this session (wip/tools/pp.sh) over the print of the kit.
namespace Go.Proofs.Ytjnnglphdaemaaa.Q
open Go.RowKit Go.Proofs.YtjnnglphdaemaaaW.PrintWords Go.Proofs.YtjnnglphdaemaaaW.PrintLast Go.Proofs.YtjnnglphdaemaaaW.PrintMore
attribute [local go_sem] max2_int min2_int max_two min_two max_three min_three max_four min_four   -- for this text's walks alone
set_option linter.unusedVariables false
set_option linter.unusedSimpArgs false
end Go.Proofs.Ytjnnglphdaemaaa.Q
end

section
/- The reference's OpenStore: the commits of bytes, one behind the other. -/
namespace Go.Proofs.Ytjnnglphdaemaaa.Q
open Go.RowKit Go.Proofs.YtjnnglphdaemaaaW.PrintWords Go.Proofs.YtjnnglphdaemaaaW.PrintLast Go.Proofs.YtjnnglphdaemaaaW.PrintMore
set_option linter.unusedVariables false
set_option linter.unusedSimpArgs false
end Go.Proofs.Ytjnnglphdaemaaa.Q
end

section
/- OpenStore, the program's and the reference's: what both come to. -/
namespace Go.Proofs.Ytjnnglphdaemaaa.Q
open Go.RowKit Go.Proofs.Ytjnnglphdaemaaa.B Go.Proofs.YtjnnglphdaemaaaW.PrintWords Go.Proofs.YtjnnglphdaemaaaW.PrintMore
set_option linter.unusedVariables false
set_option linter.unusedSimpArgs false
def Good (t : List IHead) (l : List ByteArray) (N : Nat) (s : ByteArray) (x : List ByteArray) : Prop := headOk (N : Int) s = true ∧ hasHead t (N : Int) s = true ∧ isHead (l ++ x) (N : Int) s = true ∧ N = l.length + x.length
inductive Opened (t : List IHead) : List ByteArray → List Int → List ByteArray → List Int → Nat → Prop
 | stop {l : List ByteArray} {b : List Int} (h : ∀ N s x r, b = commitB N s x ++ r → headOk (N : Int) s = true → 1 ≤ x.length → x.length ≤ 200 → (∀ y ∈ x, y.size ≤ 1000000000) → ¬ Good t l N s x) : Opened t l b l [] 0
 | step {l : List ByteArray} {r : List Int} {L : List ByteArray} {m : List Int} {c N : Nat} {s : ByteArray} {x : List ByteArray} (hk : headOk (N : Int) s = true) (h1 : 1 ≤ x.length) (h2 : x.length ≤ 200) (hs : ∀ y ∈ x, y.size ≤ 1000000000) (hg : Good t l N s x) (k : Opened t (l ++ x) r L m c) : Opened t l (commitB N s x ++ r) L (commitB N s x ++ m) (c + 1)
theorem headOk_is {n : Int} {s : ByteArray} (h : headOk n s = true) : s.size = 32 ∧ 0 ≤ n ∧ n ≤ 200 := by
 unfold headOk at h
 by_cases hc : 0 ≤ n ∧ n ≤ 200
 ·rw [if_pos hc] at h
  have := eq_of_beq h
  omega
 ·rw [if_neg hc] at h
  cases h
theorem logOk_head {l : List ByteArray} (h : l.length ≤ 200) : logOk l (headOf l).1 (headOf l).2 = true := by
 unfold logOk
 rw [if_pos (by omega)]
 simp
theorem isHead_is {l : List ByteArray} {a : Int} {z : ByteArray} (h : isHead l a z = true) : a = (headOf l).1 ∧ z = (headOf l).2 := by
 unfold isHead at h
 rw [Bool.and_eq_true] at h
 exact ⟨eq_of_beq h.1, bytes_ext (eq_of_beq h.2)⟩
end Go.Proofs.Ytjnnglphdaemaaa.Q
end

section
-- Written by a program of this session (wip/tools/pp.sh) over the print of the kit.
namespace Go.Proofs.Ytjnnglphdaemaaa.Q
open Go.RowKit Go.Proofs.YtjnnglphdaemaaaW.PrintWords Go.Proofs.YtjnnglphdaemaaaW.PrintLast Go.Proofs.YtjnnglphdaemaaaW.PrintMore
attribute [local go_sem] max2_int min2_int max_two min_two max_three min_three max_four min_four   -- for this text's walks alone
set_option linter.unusedVariables false
set_option linter.unusedSimpArgs false
def laws_sameTexts.l0 : Nat → List ByteArray → List ByteArray → Int → Option (Bool)
 | 0, _, _, _ => none
 | k + 1, x0, x1, x5 => if x5 < (x0.length : Int) then (if 0 ≤ x5 then (if x5 < (x1.length : Int) then (if (rdOf ByteArray.empty x0 x5).toList = (rdOf ByteArray.empty x1 x5).toList then (laws_sameTexts.l0 k x0 x1 (wrap64 (x5 + 1))) else (some false)) else (none)) else (none)) else (some true)
def laws_sameTexts.f (k : Nat) (l0 : List ByteArray) (l1 : List ByteArray) : Option (Bool) := if (l0.length : Int) = (l1.length : Int) then (laws_sameTexts.l0 k l0 l1 0) else (some false)
set_option maxHeartbeats 8000000 in
set_option maxRecDepth 100000 in
theorem laws_sameTexts.calls (k : Nat) (A0 : Option Addr) (c0 : Nat) (l0 : List ByteArray) (A1 : Option Addr) (c1 : Nat) (l1 : List ByteArray) (r : Bool) (w : World) (hr0 : Kd.C Kd.string w A0 l0.length l0) (hc0 : l0.length ≤ c0) (hr1 : Kd.C Kd.string w A1 l1.length l1) (hc1 : l1.length ≤ c1) (h : laws_sameTexts.f k l0 l1 = some r) :
  Calls Try.prog 18 #[.slice A0 l0.length c0, .slice A1 l1.length c1] w fun e w' => e = .returned (.bool r) ∧ Drawn0 w w' := by
 have HR0 := Aside0.mk hr0
 have HC0 := Aside0.mk hc0
 clear hr0 hc0
 have HR1 := Aside0.mk hr1
 have HC1 := Aside0.mk hc1
 clear hr1 hc1
 have H : (if (l0.length : Int) = (l1.length : Int) then (laws_sameTexts.l0 k l0 l1 0) else (some false)) = some r := h
 clear h
 replace H := it_ H; obtain ⟨c3, H⟩ | ⟨c3, H⟩ := H
 ·have c3b0 : ((l0.length : Int) == (l1.length : Int)) = true := beq_iff_eq.mpr c3
  have c3b1 : ((l0.length : Int) != (l1.length : Int)) = false := bne_eq_false_iff_eq.mpr c3
  have c3b2 : (l0.length == l1.length) = true := by first | simpa using c3 | (simp at c3 ⊢; omega)
  clear c3
  have H' := Aside0.mk H
  clear H
  go_enter Try.func18, Try.ntmps18
  go_wp2
  repeat (go_quiet (fail); try go_wp2)
  go_loopg [5] k (fun kq v5 w' => ∃ (x5_1 : Int), v5 = .int .i64 x5_1 ∧ Aside0 (laws_sameTexts.l0 kq l0 l1 x5_1 = some r) ∧ Aside0 (kq ≤ k) ∧ Drawn0 w w')
  case atStart => exact ⟨(0), e1_, H', ⟨Nat.le_refl _⟩, dw_⟩
  case round =>
   clear H'
   try clear c3
   try clear c3b0
   try clear c3b1
   try clear c3b2
   obtain ⟨x5_1, rfl, HA, HK1, ⟨m1, rfl⟩⟩ := hrel
   cases gk with
   | zero => exact absurd HA.out (by simp [laws_sameTexts.l0])
   | succ k1 =>
    have H := HA.out
    clear HA
    simp only [laws_sameTexts.l0] at H
    replace H := itd_ H; obtain ⟨c4b0, H⟩ | ⟨c4b0, H⟩ := H
    ·replace H := ipd_ H; obtain ⟨c5b0, H⟩ := H
     replace H := ipd_ H; obtain ⟨c6b0, H⟩ := H
     replace H := it_ H; obtain ⟨c7, H⟩ | ⟨c7, H⟩ := H
     ·have c7b0 : ((rdOf ByteArray.empty l0 x5_1).toList == (rdOf ByteArray.empty l1 x5_1).toList) = true := beq_iff_eq.mpr c7
      have c7b1 : ((rdOf ByteArray.empty l0 x5_1).toList != (rdOf ByteArray.empty l1 x5_1).toList) = false := bne_eq_false_iff_eq.mpr c7
      clear c7
      have H' := Aside0.mk H
      clear H
      have p601 : 0 ≤ (x5_1 : Int) := of_decide_eq_true as_
      have q601 : x5_1 < (l0.length : Int) := of_decide_eq_true as_
      obtain ⟨ad601, e601, hx601_0⟩ := Kd.at_string HR0.out x5_1 p601 q601
      cases e601
      replace p601 := eq_true p601
      replace q601 := eq_true q601
      have p602 : 0 ≤ (x5_1 : Int) := of_decide_eq_true as_
      have q602 : x5_1 < (l1.length : Int) := of_decide_eq_true as_
      obtain ⟨ad602, e602, hx602_0⟩ := Kd.at_string HR1.out x5_1 p602 q602
      cases e602
      replace p602 := eq_true p602
      replace q602 := eq_true q602
      go_wp2
      repeat (go_quiet (fail); try go_wp2)
      go_roundg k1
      case measure => have := HK1.out; omega
      case rel => exact ⟨(wrap64 (x5_1 + 1)), e1_, H', ⟨by have := HK1.out; omega⟩, dw_⟩
     ·have c7b0 : ((rdOf ByteArray.empty l0 x5_1).toList == (rdOf ByteArray.empty l1 x5_1).toList) = false := beq_eq_false_iff_ne.mpr c7
      have c7b1 : ((rdOf ByteArray.empty l0 x5_1).toList != (rdOf ByteArray.empty l1 x5_1).toList) = true := bne_iff_ne.mpr c7
      obtain rfl := Option.some.inj H
      have p601 : 0 ≤ (x5_1 : Int) := of_decide_eq_true as_
      have q601 : x5_1 < (l0.length : Int) := of_decide_eq_true as_
      obtain ⟨ad601, e601, hx601_0⟩ := Kd.at_string HR0.out x5_1 p601 q601
      cases e601
      replace p601 := eq_true p601
      replace q601 := eq_true q601
      have p602 : 0 ≤ (x5_1 : Int) := of_decide_eq_true as_
      have q602 : x5_1 < (l1.length : Int) := of_decide_eq_true as_
      obtain ⟨ad602, e602, hx602_0⟩ := Kd.at_string HR1.out x5_1 p602 q602
      cases e602
      replace p602 := eq_true p602
      replace q602 := eq_true q602
      go_wp2
      repeat (go_quiet (fail); try go_wp2)
      go_ret
      exact ⟨e1_, dw_⟩
    ·obtain rfl := Option.some.inj H
     go_wp2
     repeat (go_quiet (fail); try go_wp2)
     go_ret
     exact ⟨e1_, dw_⟩
 ·have c3b0 : ((l0.length : Int) == (l1.length : Int)) = false := beq_eq_false_iff_ne.mpr c3
  have c3b1 : ((l0.length : Int) != (l1.length : Int)) = true := bne_iff_ne.mpr c3
  have c3b2 : (l0.length == l1.length) = false := by first | simpa using c3 | (simp at c3 ⊢; omega)
  obtain rfl := Option.some.inj H
  go_enter Try.func18, Try.ntmps18
  go_wp2
  repeat (go_quiet (fail); try go_wp2)
  go_ret
  exact ⟨e1_, dw_⟩
end Go.Proofs.Ytjnnglphdaemaaa.Q
end

section
/- Whether two lists of texts are the same, as the laws tell it. Plain. -/
namespace Go.Proofs.Ytjnnglphdaemaaa.Q
open Go.RowKit Go.Proofs.Ytjnnglphdaemaaa.B Go.Proofs.YtjnnglphdaemaaaW.PrintWords
set_option linter.unusedVariables false
set_option linter.unusedSimpArgs false
theorem nextST {i n : Nat} (h : i < n) (hn : n ≤ 9223372036854775807) : wrap64 ((i : Int) + 1) = ((i + 1 : Nat) : Int) := by
 rw [w64 (by omega) (by omega)]
 omega
theorem laws_same_ev (a b : List ByteArray) (ha : a.length ≤ 9223372036854775807) : Ev (fun k => laws_sameTexts.f k a b) (decide (a = b)) := by
 unfold laws_sameTexts.f
 by_cases hl : a.length = b.length
 ·have main : ∀ (d i : Nat), i + d = a.length → a.take i = b.take i → Ev (fun k => laws_sameTexts.l0 k a b (i : Int)) (decide (a = b)) := by
   intro d
   induction d with
   | zero =>
    intro i hi ht
    rw [List.take_of_length_le (by omega), List.take_of_length_le (by omega)] at ht
    rw [decide_eq_true ht]
    refine Ev.step (fun k => by simp only [laws_sameTexts.l0]; rfl) ?_
    exact Ev.neg (by omega) (Ev.now _)
   | succ d ih =>
    intro i hi ht
    obtain ⟨x, hx⟩ := get_some (l := a) (i := i) (by omega)
    obtain ⟨y, hy⟩ := get_some (l := b) (i := i) (by omega)
    refine Ev.step (fun k => by simp only [laws_sameTexts.l0]; rfl) ?_
    rw [rdOf_at hx, rdOf_at hy, nextST (show i < a.length by omega) ha]
    by_cases h : x.toList = y.toList
    ·have e := bytes_ext h
     subst e
     exact Ev.pos (by omega) (Ev.pos (by omega) (Ev.pos (by omega) (Ev.pos rfl (ih (i + 1) (by omega) (by rw [take_one hx, take_one hy, ht])))))
    ·have hn : ¬ a = b := by
      intro e
      subst e
      rw [hx] at hy
      exact h (by rw [Option.some.inj hy])
     rw [decide_eq_false hn]
     exact Ev.pos (by omega) (Ev.pos (by omega) (Ev.pos (by omega) (Ev.neg h (Ev.now _))))
  exact Ev.pos (by omega) (main a.length 0 (by omega) (by simp))
 ·have hn : ¬ a = b := fun e => hl (by rw [e])
  rw [decide_eq_false hn]
  exact Ev.neg (by omega) (Ev.now _)
end Go.Proofs.Ytjnnglphdaemaaa.Q
end

section
-- Written by a program of this session (wip/tools/pp.sh) over the print of the kit.
namespace Go.Proofs.Ytjnnglphdaemaaa.Q
open Go.RowKit Go.Proofs.YtjnnglphdaemaaaW.PrintWords Go.Proofs.YtjnnglphdaemaaaW.PrintLast Go.Proofs.YtjnnglphdaemaaaW.PrintMore
attribute [local go_sem] max2_int min2_int max_two min_two max_three min_three max_four min_four   -- for this text's walks alone
set_option linter.unusedVariables false
set_option linter.unusedSimpArgs false
def laws_big.f (l0 : List Int) : Option (Bool) := some (decide ((l0.length : Int) > 1048576))
set_option maxHeartbeats 8000000 in
set_option maxRecDepth 100000 in
theorem laws_big.calls (A0 : Option Addr) (c0 : Nat) (l0 : List Int) (r : Bool) (w : World) (hr0 : Kd.C (Kd.int .u8) w A0 l0.length l0) (hc0 : l0.length ≤ c0) (h : laws_big.f l0 = some r) :
  Calls Try.prog 10 #[.slice A0 l0.length c0] w fun e w' => e = .returned (.bool r) ∧ Drawn0 w w' := by
 have HR0 := Aside0.mk hr0
 have HC0 := Aside0.mk hc0
 clear hr0 hc0
 have H : (some (decide ((l0.length : Int) > 1048576))) = some r := h
 clear h
 obtain rfl := Option.some.inj H
 go_enter Try.func10, Try.ntmps10
 go_wp2
 go_ret
 exact ⟨e1_, dw_⟩
end Go.Proofs.Ytjnnglphdaemaaa.Q
end
