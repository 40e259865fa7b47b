/- What a drawn store commits is behind its bytes, and makes its log; what it does not leaves it as it was; no condition. -/
-- Joined and shortened by a program of this session (wip/tools/shakecopy.py): the words of the print, texts of pp.sh and of mine.
import Derived.Test.YtnlndmoecljicaaKFnStored5
set_option linter.unusedVariables false
set_option linter.unusedSimpArgs false
section
namespace Go.Proofs.Ytnlndmoecljicaa.Q
open Go.Proofs.Ytnlndmoecljicaa.B Go.Proofs.YtnlndmoecljicaaW.PrintMore Go.Proofs.YtnlndmoecljicaaW.PrintWords Go.RowKit
set_option maxHeartbeats 8000000
set_option maxRecDepth 100000
def num (n : Nat) : List Int := if 127 < n then ((128 + n % 128 : Nat) : Int) :: num (n / 128) else [(n : Int)]
termination_by n
decreasing_by omega
theorem num_more {n : Nat} (h : 127 < n) : num n = ((128 + n % 128 : Nat) : Int) :: num (n / 128) := by rw [num, if_pos h]
theorem num_one {n : Nat} (h : ¬ 127 < n) : num n = [(n : Int)] := by rw [num, if_neg h]
theorem num_inB (n : Nat) : InB (num n) := by
 induction n using Nat.strongRecOn with
 | ind n ih =>
  by_cases h : 127 < n
  ·rw [num_more h]
   intro x hx
   rcases List.mem_cons.1 hx with hx | hx
   ·omega
   ·exact ih (n / 128) (by omega) x hx
  ·rw [num_one h]
   intro x hx
   rw [List.mem_singleton.1 hx]
   omega
theorem num_pos (n : Nat) : 1 ≤ (num n).length := by
 by_cases h : 127 < n
 ·rw [num_more h]
  simp
 ·rw [num_one h]
  simp
theorem num_len : ∀ (k n : Nat), n < 128 ^ (k + 1) → (num n).length ≤ k + 1 := by
 intro k
 induction k with
 | zero =>
  intro n h
  rw [num_one (by omega)]
  simp
 | succ k ih =>
  intro n h
  by_cases h2 : 127 < n
  ·rw [num_more h2, List.length_cons]
   have := ih (n / 128) (by rw [Nat.pow_succ] at h; omega)
   omega
  ·rw [num_one h2]
   simp
theorem num_five {n : Nat} (h : n ≤ 1000000000) : (num n).length ≤ 5 := num_len 4 n (by omega)
theorem num_inj : ∀ (n m : Nat) (r s : List Int), num n ++ r = num m ++ s → n = m ∧ r = s := by
 intro n
 induction n using Nat.strongRecOn with
 | ind n ih =>
  intro m r s h
  by_cases h1 : 127 < n
  ·by_cases h2 : 127 < m
   ·rw [num_more h1, num_more h2, List.cons_append, List.cons_append] at h
    injection h with ha hb
    obtain ⟨e1, e2⟩ := ih (n / 128) (by omega) (m / 128) r s hb
    exact ⟨by omega, e2⟩
   ·rw [num_more h1, num_one h2, List.cons_append, List.cons_append] at h
    injection h with ha hb
    omega
  ·by_cases h2 : 127 < m
   ·rw [num_one h1, num_more h2, List.cons_append, List.cons_append] at h
    injection h with ha hb
    omega
   ·rw [num_one h1, num_one h2, List.cons_append, List.cons_append] at h
    injection h with ha hb
    exact ⟨by omega, by simpa using hb⟩
def textB (s : ByteArray) : List Int := num s.size ++ bytesOf s
def manyB (t : List ByteArray) : List Int := (t.map textB).flatten
def textsB (t : List ByteArray) : List Int := num t.length ++ manyB t
theorem textB_inB (s : ByteArray) : InB (textB s) := inB_app (num_inB _) (inB_text s)
theorem manyB_nil : manyB [] = [] := rfl
theorem manyB_cons (s : ByteArray) (t : List ByteArray) : manyB (s :: t) = textB s ++ manyB t := rfl
theorem textB_length (s : ByteArray) : (textB s).length = (num s.size).length + s.size := by
 unfold textB
 rw [List.length_append, bytesOf_length]
theorem bytesOf_inj {a b : ByteArray} (h : bytesOf a = bytesOf b) : a = b := by
 apply bytes_ext
 rw [Go.Lib.toList_data, Go.Lib.toList_data]
 unfold bytesOf at h
 refine List.map_inj_right (fun x y e => ?_) |>.1 h
 exact UInt8.toNat_inj.1 (by omega)
theorem textB_inj {a b : ByteArray} {r s : List Int} (h : textB a ++ r = textB b ++ s) : a = b ∧ r = s := by
 unfold textB at h
 rw [List.append_assoc, List.append_assoc] at h
 obtain ⟨h1, h2⟩ := num_inj _ _ _ _ h
 obtain ⟨h3, h4⟩ := List.append_inj h2 (by rw [bytesOf_length, bytesOf_length, h1])
 exact ⟨bytesOf_inj h3, h4⟩
theorem manyB_inj : ∀ (a b : List ByteArray) (r s : List Int), a.length = b.length → manyB a ++ r = manyB b ++ s → a = b ∧ r = s := by
 intro a
 induction a with
 | nil =>
  intro b r s hl h
  obtain rfl := List.eq_nil_of_length_eq_zero hl.symm
  exact ⟨rfl, by simpa [manyB_nil] using h⟩
 | cons x a ih =>
  intro b r s hl h
  cases b with
  | nil => cases hl
  | cons y b =>
   rw [manyB_cons, manyB_cons, List.append_assoc, List.append_assoc] at h
   obtain ⟨e1, e2⟩ := textB_inj h
   obtain ⟨e3, e4⟩ := ih b r s (by simpa using hl) e2
   exact ⟨by rw [e1, e3], e4⟩
theorem textsB_inj {a b : List ByteArray} {r s : List Int} (h : textsB a ++ r = textsB b ++ s) : a = b ∧ r = s := by
 unfold textsB at h
 rw [List.append_assoc, List.append_assoc] at h
 obtain ⟨h1, h2⟩ := num_inj _ _ _ _ h
 exact manyB_inj a b r s h1 h2
theorem and127 (c : Int) (h0 : 0 ≤ c) (h1 : c < 9223372036854775808) : Go.bits .and .i64 c 127 = c % 128 := bits_mask .i64 63 (by decide) wraps63 7 (by decide) c h0 h1
theorem or128 (c : Int) (h0 : 0 ≤ c) (h1 : c < 128) : Go.bits .or .i64 c 128 = 128 + c := by
 rw [or_swap]
 exact bits_join .i64 63 (by decide) wraps63 7 128 c (by decide) (by decide) (by decide) h0 h1 (by omega)
theorem bit_at (n c p u : Int) (e : Nat) (hu : u = (e : Int)) (he : e ≤ 28) (hp : p = 2 ^ e) (hq : p ≤ 268435456) (hn0 : 0 ≤ n) (hn1 : n < p) (hc0 : 0 ≤ c) (hc1 : c ≤ 255) : Go.bits .or .i64 n (shl .i64 (Go.bits .and .i64 c 127) u) = n + p * (c % 128) := by
 rw [and127 c hc0 (by omega)]
 obtain ⟨d, hd⟩ : ∃ d, c % 128 = d := ⟨_, rfl⟩
 have hd0 : 0 ≤ d := by omega
 have hd1 : d ≤ 127 := by omega
 rw [hd]
 have hp0 : 0 ≤ p := by omega
 have hm : d * p ≤ 127 * 268435456 := Int.mul_le_mul hd1 hq hp0 (by decide)
 have hm0 : 0 ≤ d * p := Int.mul_nonneg hd0 hp0
 have hs : shl .i64 d u = d * p := by
  unfold shl
  rw [hu, Int.toNat_natCast, Nat.min_eq_left (show e ≤ IntKind.i64.bits by show e ≤ 64; omega), ← hp]
  exact wraps63 _ hm0 (by omega)
 rw [hs, or_swap, bits_join .i64 63 (by decide) wraps63 e (d * p) n hm0 (by rw [hp]; exact Int.mul_emod_left _ _) (by omega) hn0 (by rw [← hp]; exact hn1) (by omega), Int.mul_comm d p]
 omega
theorem u64_w (n : Int) : IntKind.u64.wrap n = n % 18446744073709551616 := by simp [IntKind.wrap, IntKind.bits, IntKind.signed]
theorem u7 (k : Nat) (hk : k ≤ 4) : IntKind.u64.wrap (wrap64 (7 * (k : Int))) = ((7 * k : Nat) : Int) := by
 rw [w64 (by omega) (by omega), u64_w]
 omega
theorem pow7 (k : Nat) : (128 : Nat) ^ k = 2 ^ (7 * k) := by rw [Nat.pow_mul]
theorem bit_step (n c k : Nat) (hk : k ≤ 4) (hn : n < 128 ^ k) (hc : c ≤ 255) : Go.bits .or .i64 (n : Int) (shl .i64 (Go.bits .and .i64 (c : Int) 127) ((7 * k : Nat) : Int)) = ((n + 128 ^ k * (c % 128) : Nat) : Int) := by
 have h4 : (128 : Nat) ^ k ≤ 128 ^ 4 := Nat.pow_le_pow_right (by decide) hk
 have h5 : (128 : Nat) ^ 4 = 268435456 := by decide
 have e := pow7 k
 have := bit_at (n : Int) (c : Int) ((128 ^ k : Nat) : Int) _ (7 * k) rfl (by omega) (by rw [e, Int.natCast_pow]; rfl) (by omega) (by omega) (by omega) (by omega) (by omega)
 rw [this, Int.natCast_add, Int.natCast_mul, Int.natCast_emod]
 rfl
def NumAt (b : List Int) (a k n : Nat) (m x : Int) (ok : Bool) : Prop :=
 (ok = false → m = 0 ∧ x = 0 ∧ ∀ N r, b.drop (a + k) = num N ++ r → n + 128 ^ k * N ≤ 1000000000 → (0 < k → 0 < N) → False) ∧
 (ok = true → ∃ N : Nat, m = ((n + 128 ^ k * N : Nat) : Int) ∧ n + 128 ^ k * N ≤ 1000000000 ∧ (0 < k → 0 < N) ∧ b.drop (a + k) = num N ++ b.drop (a + k + (num N).length) ∧ x = ((a + k + (num N).length : Nat) : Int) ∧ a + k + (num N).length ≤ b.length)
theorem numAt_more {b : List Int} {a k n c : Nat} {m x : Int} {ok : Bool} (hk : k ≤ 4) (hd : b.drop (a + k) = (c : Int) :: b.drop (a + k + 1)) (hc : 127 < c) (hc2 : c ≤ 255) (h : NumAt b a (k + 1) (n + 128 ^ k * (c % 128)) m x ok) : NumAt b a k n m x ok := by
 have e : ∀ N, n + 128 ^ k * (c % 128) + 128 ^ (k + 1) * N = n + 128 ^ k * (c % 128 + 128 * N) := fun N => by
  rw [Nat.pow_succ, Nat.mul_add, Nat.mul_assoc]
  omega
 refine ⟨fun ho => ?_, fun ho => ?_⟩
 ·obtain ⟨h1, h2, h3⟩ := h.1 ho
  refine ⟨h1, h2, fun N r hN hM hP => ?_⟩
  by_cases h9 : 127 < N
  ·rw [num_more h9, hd, List.cons_append] at hN
   injection hN with ha hb
   refine h3 (N / 128) r hb ?_ (fun _ => by omega)
   rw [e]
   have : c % 128 + 128 * (N / 128) = N := by omega
   rw [this]
   exact hM
  ·rw [num_one h9, hd, List.cons_append] at hN
   injection hN with ha hb
   omega
 ·obtain ⟨N, h1, h2, h3, h4, h5, h6⟩ := h.2 ho
  have h3 := h3 (by omega)
  have hN : 127 < c % 128 + 128 * N := by omega
  have hn : num (c % 128 + 128 * N) = (c : Int) :: num N := by
   rw [num_more hN, show (c % 128 + 128 * N) / 128 = N by omega]
   congr 1
   omega
  refine ⟨c % 128 + 128 * N, by rw [h1, e], by rw [← e]; exact h2, fun _ => by omega, ?_, ?_, ?_⟩
  ·rw [hn, hd, List.length_cons, List.cons_append]
   congr 1
   rw [show a + k + ((num N).length + 1) = a + (k + 1) + (num N).length by omega]
   exact h4
  ·rw [hn, List.length_cons, h5]
   congr 1
   omega
  ·rw [hn, List.length_cons]
   omega
theorem numAt_zero {b : List Int} {a k n : Nat} (hk : 0 < k) (hd : b.drop (a + k) = (0 : Int) :: b.drop (a + k + 1)) : NumAt b a k n 0 0 false := by
 refine ⟨fun _ => ⟨rfl, rfl, fun N r hN hM hP => ?_⟩, fun h => by cases h⟩
 have hP := hP hk
 by_cases h9 : 127 < N
 ·rw [num_more h9, hd, List.cons_append] at hN
  injection hN with ha hb
  omega
 ·rw [num_one h9, hd, List.cons_append] at hN
  injection hN with ha hb
  omega
theorem numAt_great {b : List Int} {a k n c : Nat} (hc : ¬ 127 < c) (hd : b.drop (a + k) = (c : Int) :: b.drop (a + k + 1)) (hg : 1000000000 < n + 128 ^ k * (c % 128)) : NumAt b a k n 0 0 false := by
 refine ⟨fun _ => ⟨rfl, rfl, fun N r hN hM hP => ?_⟩, fun h => by cases h⟩
 by_cases h9 : 127 < N
 ·rw [num_more h9, hd, List.cons_append] at hN
  injection hN with ha hb
  omega
 ·rw [num_one h9, hd, List.cons_append] at hN
  injection hN with ha hb
  have : c % 128 = N := by omega
  rw [this] at hg
  omega
theorem numAt_last {b : List Int} {a k n c : Nat} (hc : ¬ 127 < c) (h0 : 0 < k → 0 < c) (hl : a + k < b.length) (hd : b.drop (a + k) = (c : Int) :: b.drop (a + k + 1)) (hg : n + 128 ^ k * (c % 128) ≤ 1000000000) : NumAt b a k n ((n + 128 ^ k * (c % 128) : Nat) : Int) ((a + k + 1 : Nat) : Int) true := by
 refine ⟨fun h => (by cases h), fun _ => ⟨c, ?_, ?_, h0, ?_, ?_, ?_⟩⟩
 ·rw [show c % 128 = c by omega]
 ·rw [show c % 128 = c by omega] at hg
  exact hg
 ·rw [num_one hc, hd]
  simp
 ·rw [num_one hc]
  simp
 ·rw [num_one hc]
  simp
  omega
theorem numAt_end {b : List Int} {a k n : Nat} (hl : b.length ≤ a + k) : NumAt b a k n 0 0 false := by
 refine ⟨fun _ => ⟨rfl, rfl, fun N r hN hM hP => ?_⟩, fun h => by cases h⟩
 rw [List.drop_eq_nil_of_le hl] at hN
 have := congrArg List.length hN
 have h2 := num_pos N
 rw [List.length_append] at this
 simp only [List.length_nil] at this
 omega
theorem numAt_five {b : List Int} {a n : Nat} : NumAt b a 5 n 0 0 false := by
 refine ⟨fun _ => ⟨rfl, rfl, fun N r hN hM hP => ?_⟩, fun h => by cases h⟩
 have hP := hP (by decide)
 omega
set_option maxHeartbeats 1000000 in
theorem getNum_loop (b : List Int) (hb : InB b) (hl : b.length ≤ 1099511627776) (a : Nat) (hA : a ≤ 1099511627776) : ∀ (d k : Nat), k + d = 5 → ∀ n : Nat, n < 128 ^ k → ∃ m x ok, Ev (fun q => spec_GetNum.l0 q b (a : Int) (n : Int) (k : Int)) (m, x, ok) ∧ Ev (fun q => impl_GetNum.l0 q b ((a + k : Nat) : Int) (n : Int) (k : Int)) (m, x, ok) ∧ NumAt b a k n m x ok := by
 have sEnd : ∀ (n k : Int), Ev (fun q => spec_GetNum.j1 q b (a : Int) n k false) (0, 0, false) := fun n k => by
  refine Ev.step (fun q => by simp only [spec_GetNum.j1]; rfl) ?_
  exact Ev.neg (by simp) (Ev.now _)
 have iEnd : ∀ (x n k : Int), Ev (fun q => impl_GetNum.j1 q b x n k false) (0, 0, false) := fun x n k => by
  refine Ev.step (fun q => by simp only [impl_GetNum.j1]; rfl) ?_
  exact Ev.neg (by simp) (Ev.now _)
 intro d
 induction d with
 | zero =>
  intro k hk n hn
  obtain rfl : k = 5 := by omega
  refine ⟨0, 0, false, ?_, ?_, numAt_five⟩
  ·refine Ev.step (fun q => by simp only [spec_GetNum.l0]; rfl) ?_
   exact Ev.neg (by omega) (sEnd _ _)
  ·refine Ev.step (fun q => by simp only [impl_GetNum.l0]; rfl) ?_
   exact Ev.neg (by omega) (iEnd _ _ _)
 | succ d ih =>
  intro k hk n hn
  have hk4 : k ≤ 4 := by omega
  have e1 := am_ (show wrap64 ((a : Int) + (k : Int)) = ((a + k : Nat) : Int) by
   rw [w64 (by omega) (by omega)]
   omega)
  have hk5 : (k : Int) < 5 := by omega
  by_cases hx : a + k < b.length
  ·obtain ⟨c, hc⟩ := get_some (l := b) (i := a + k) hx
   have hd := drop_one hc
   have hcr := hb c (List.mem_of_getElem? hc)
   obtain ⟨c, rfl⟩ := Int.eq_ofNat_of_zero_le hcr.1
   have hc255 : c ≤ 255 := by omega
   have e2 := am_ (show rd b ((a + k : Nat) : Int) = (c : Int) from rd_at hc)
   have e3 := am_ (show wrap64 (c : Int) = (c : Int) from w64 (by omega) (by omega))
   have e4 := am_ (u7 k hk4)
   have e5 := am_ (bit_step n c k hk4 hn hc255)
   have e6 := am_ (show wrap64 ((k : Int) + 1) = ((k + 1 : Nat) : Int) by
    rw [w64 (by omega) (by omega)]
    omega)
   have e7 := am_ (show wrap64 (((a + k : Nat) : Int) + 1) = ((a + (k + 1) : Nat) : Int) by
    rw [w64 (by omega) (by omega)]
    omega)
   have hlt : ((a + k : Nat) : Int) < (b.length : Int) := by omega
   have h70 : (0 : Int) ≤ ((7 * k : Nat) : Int) := by omega
   have ha0 : (0 : Int) ≤ ((a + k : Nat) : Int) := by omega
   have key : ∀ r, Ev (fun q => spec_GetNum.j1 q b (a : Int) (n : Int) (k : Int) true) r → Ev (fun q => spec_GetNum.l0 q b (a : Int) (n : Int) (k : Int)) r := fun r h => by
    refine Ev.step (fun q => by simp only [spec_GetNum.l0, e1.out, decide_eq_true hlt]; rfl) ?_
    exact Ev.pos hk5 (Ev.pos (by omega) (Ev.pos (by omega) h))
   have key2 : ∀ r, Ev (fun q => impl_GetNum.j1 q b ((a + k : Nat) : Int) (n : Int) (k : Int) true) r → Ev (fun q => impl_GetNum.l0 q b ((a + k : Nat) : Int) (n : Int) (k : Int)) r := fun r h => by
    refine Ev.step (fun q => by simp only [impl_GetNum.l0, decide_eq_true hlt]; rfl) ?_
    exact Ev.pos hk5 h
   by_cases h127 : 127 < c
   ·have hn2 : n + 128 ^ k * (c % 128) < 128 ^ (k + 1) := by
     have := Nat.mul_le_mul_left (128 ^ k) (show c % 128 ≤ 127 by omega)
     rw [Nat.pow_succ]
     omega
    obtain ⟨m, x, ok, s1, s2, s3⟩ := ih (k + 1) (by omega) _ hn2
    refine ⟨m, x, ok, key _ ?_, key2 _ ?_, numAt_more hk4 hd h127 hc255 s3⟩
    ·refine Ev.step (fun q => by simp only [spec_GetNum.j1, e1.out, e2.out, e3.out, e4.out, e5.out, e6.out]; rfl) ?_
     exact Ev.pos trivial (Ev.pos ha0 (Ev.pos hlt (Ev.pos h70 (Ev.pos (by omega) s1))))
    ·refine Ev.step (fun q => by simp only [impl_GetNum.j1, e2.out, e3.out, e4.out, e5.out, e6.out, e7.out]; rfl) ?_
     exact Ev.pos trivial (Ev.pos ha0 (Ev.pos hlt (Ev.pos h70 (Ev.neg (by omega) s2))))
   ·by_cases hz : 0 < k ∧ c = 0
    ·obtain ⟨hk0, rfl⟩ := hz
     refine ⟨0, 0, false, key _ ?_, key2 _ ?_, numAt_zero hk0 hd⟩
     ·refine Ev.step (fun q => by simp only [spec_GetNum.j1, e1.out, e2.out, e3.out, e4.out, e5.out, e6.out]; rfl) ?_
      exact Ev.pos trivial (Ev.pos ha0 (Ev.pos hlt (Ev.pos h70 (Ev.neg (by omega) (Ev.pos (by omega) (Ev.pos (by omega) (Ev.now _)))))))
     ·refine Ev.step (fun q => by simp only [impl_GetNum.j1, e2.out, e3.out, e4.out, e5.out, e6.out, e7.out]; rfl) ?_
      exact Ev.pos trivial (Ev.pos ha0 (Ev.pos hlt (Ev.pos h70 (Ev.pos (by omega) (Ev.pos (by omega) (Ev.pos (by omega) (Ev.now _)))))))
    ·obtain ⟨v, hv⟩ : ∃ v, n + 128 ^ k * (c % 128) = v := ⟨_, rfl⟩
     by_cases hg : 1000000000 < v
     ·refine ⟨0, 0, false, key _ ?_, key2 _ ?_, numAt_great h127 hd (by rw [hv]; exact hg)⟩
      ·refine Ev.step (fun q => by simp only [spec_GetNum.j1, e1.out, e2.out, e3.out, e4.out, e5.out, e6.out, hv]; rfl) ?_
       refine Ev.pos trivial (Ev.pos ha0 (Ev.pos hlt (Ev.pos h70 (Ev.neg (by omega) ?_))))
       by_cases hk0 : 0 < k
       ·exact Ev.pos (by omega) (Ev.neg (by omega) (Ev.pos (by omega) (Ev.now _)))
       ·exact Ev.neg (by omega) (Ev.pos (by omega) (Ev.now _))
      ·refine Ev.step (fun q => by simp only [impl_GetNum.j1, e2.out, e3.out, e4.out, e5.out, e6.out, e7.out, hv]; rfl) ?_
       refine Ev.pos trivial (Ev.pos ha0 (Ev.pos hlt (Ev.pos h70 (Ev.pos (by omega) ?_))))
       by_cases hc0 : c = 0
       ·exact Ev.pos (by omega) (Ev.neg (by omega) (Ev.pos (by omega) (Ev.now _)))
       ·exact Ev.neg (by omega) (Ev.pos (by omega) (Ev.now _))
     ·have hlast := numAt_last (n := n) h127 (fun hk0 => by omega) hx hd (by rw [hv]; omega)
      rw [hv] at hlast
      refine ⟨(v : Int), ((a + k + 1 : Nat) : Int), true, key _ ?_, key2 _ ?_, hlast⟩
      ·refine Ev.step (fun q => by simp only [spec_GetNum.j1, e1.out, e2.out, e3.out, e4.out, e5.out, e6.out, e7.out, hv]; rfl) ?_
       refine Ev.pos trivial (Ev.pos ha0 (Ev.pos hlt (Ev.pos h70 (Ev.neg (by omega) ?_))))
       by_cases hk0 : 0 < k
       ·exact Ev.pos (by omega) (Ev.neg (by omega) (Ev.neg (by omega) (Ev.now _)))
       ·exact Ev.neg (by omega) (Ev.neg (by omega) (Ev.now _))
      ·refine Ev.step (fun q => by simp only [impl_GetNum.j1, e2.out, e3.out, e4.out, e5.out, e6.out, e7.out, hv]; rfl) ?_
       refine Ev.pos trivial (Ev.pos ha0 (Ev.pos hlt (Ev.pos h70 (Ev.pos (by omega) ?_))))
       by_cases hc0 : c = 0
       ·exact Ev.pos (by omega) (Ev.neg (by omega) (Ev.neg (by omega) (Ev.now _)))
       ·exact Ev.neg (by omega) (Ev.neg (by omega) (Ev.now _))
  ·refine ⟨0, 0, false, ?_, ?_, numAt_end (by omega)⟩
   ·have hn : ¬ ((a + k : Nat) : Int) < (b.length : Int) := by omega
    refine Ev.step (fun q => by simp only [spec_GetNum.l0, e1.out, decide_eq_false hn]; rfl) ?_
    refine Ev.pos hk5 (Ev.pos (by omega) ?_)
    by_cases h2 : (a : Int) < (b.length : Int)
    ·exact Ev.pos h2 (sEnd _ _)
    ·exact Ev.neg h2 (sEnd _ _)
   ·have hn : ¬ ((a + k : Nat) : Int) < (b.length : Int) := by omega
    refine Ev.step (fun q => by simp only [impl_GetNum.l0, decide_eq_false hn]; rfl) ?_
    exact Ev.pos hk5 (iEnd _ _ _)
def NumOf (b : List Int) (at_ m x : Int) (ok : Bool) : Prop :=
 (ok = false → m = 0 ∧ x = 0 ∧ ∀ (a N : Nat) r, at_ = (a : Int) → b.drop a = num N ++ r → N ≤ 1000000000 → False) ∧
 (ok = true → ∃ a N : Nat, at_ = (a : Int) ∧ m = (N : Int) ∧ N ≤ 1000000000 ∧ b.drop a = num N ++ b.drop (a + (num N).length) ∧ x = ((a + (num N).length : Nat) : Int) ∧ a + (num N).length ≤ b.length)
theorem getNum_both (b : List Int) (hb : InB b) (hl : b.length ≤ 1099511627776) (at_ : Int) (h0 : -9223372036854775808 ≤ at_) (h1 : at_ ≤ 9223372036854775807) : ∃ m x ok, Ev (fun q => spec_GetNum.f q b at_) (m, x, ok) ∧ Ev (fun q => impl_GetNum.f q b at_) (m, x, ok) ∧ NumOf b at_ m x ok := by
 have hw : wrap64 ((b.length : Int) - 1) = (b.length : Int) - 1 := w64 (by omega) (by omega)
 by_cases hr : 0 ≤ at_ ∧ at_ ≤ (b.length : Int) - 1
 ·obtain ⟨a, rfl⟩ := Int.eq_ofNat_of_zero_le hr.1
  obtain ⟨m, x, ok, s1, s2, s3⟩ := getNum_loop b hb hl a (by omega) 5 0 rfl 0 (by decide)
  refine ⟨m, x, ok, ?_, ?_, ?_⟩
  ·exact s1
  ·unfold impl_GetNum.f
   rw [hw]
   exact Ev.bind (Ev.const (impl_in_eq _ _ _)) (Ev.pos (decide_eq_true hr) s2)
  ·refine ⟨fun ho => ?_, fun ho => ?_⟩
   ·obtain ⟨q1, q2, q3⟩ := s3.1 ho
    refine ⟨q1, q2, fun a' N r ha' hN hM => ?_⟩
    obtain rfl : a = a' := by omega
    exact q3 N r hN (by simpa using hM) (fun h => by omega)
   ·obtain ⟨N, q1, q2, _, q4, q5, q6⟩ := s3.2 ho
    exact ⟨a, N, rfl, by simpa using q1, by simpa using q2, by simpa using q4, by simpa using q5, by simpa using q6⟩
 ·refine ⟨0, 0, false, ?_, ?_, ?_⟩
  ·unfold spec_GetNum.f
   refine Ev.step (fun q => by simp only [spec_GetNum.l0]; rfl) ?_
   have hj : ∀ x : Bool, x = false → Ev (fun q => spec_GetNum.j1 q b at_ 0 0 x) (0, 0, false) := fun x hx => by
    subst hx
    refine Ev.step (fun q => by simp only [spec_GetNum.j1]; rfl) ?_
    exact Ev.neg (by simp) (Ev.now _)
   refine Ev.pos (by decide) ?_
   by_cases h2 : at_ ≥ 0
   ·refine Ev.pos h2 (Ev.neg (by omega) (hj _ rfl))
   ·exact Ev.neg h2 (hj _ rfl)
  ·unfold impl_GetNum.f
   rw [hw]
   exact Ev.bind (Ev.const (impl_in_eq _ _ _)) (Ev.neg (by rw [decide_eq_false hr]; simp) (Ev.now _))
  ·refine ⟨fun _ => ⟨rfl, rfl, fun a N r ha hN hM => ?_⟩, fun h => by cases h⟩
   have h2 := num_pos N
   have := congrArg List.length hN
   rw [List.length_append, List.length_drop] at this
   omega
theorem byte_more (x : Nat) (h : x ≤ 1000000000) : (Go.bits .or .i64 (Go.bits .and .i64 (x : Int) 127) 128) % 256 = ((128 + x % 128 : Nat) : Int) := by
 rw [and127 _ (by omega) (by omega), or128 _ (by omega) (by omega)]
 omega
theorem num_val : ∀ (k x : Nat) (acc : List Int), x < 128 ^ (k + 1) → x ≤ 1000000000 → acc.length + k ≤ 1099511627776 →
  Ev (fun q => spec_PutNum.l0 q (x : Int) acc) (acc ++ num x) ∧ Ev (fun q => impl_putNum.l0 q acc (x : Int)) (acc ++ num x) := by
 intro k
 induction k with
 | zero =>
  intro x acc h1 h2 h3
  have hx : ¬ (x : Int) > 127 := by omega
  have e : (x : Int) % 256 = (x : Int) := by omega
  rw [num_one (by omega)]
  refine ⟨?_, ?_⟩
  ·refine Ev.step (fun q => by simp only [spec_PutNum.l0, e]; rfl) ?_
   exact Ev.neg hx (Ev.pos (by omega) (Ev.now _))
  ·refine Ev.step (fun q => by simp only [impl_putNum.l0, e]; rfl) ?_
   exact Ev.neg hx (Ev.pos (by omega) (Ev.now _))
 | succ k ih =>
  intro x acc h1 h2 h3
  by_cases hx : (x : Int) > 127
  ·have e1 := am_ (byte_more x h2)
   have e2 := am_ (show (x : Int) / 128 = ((x / 128 : Nat) : Int) by omega)
   have hp : x / 128 < 128 ^ (k + 1) := by
    rw [Nat.pow_succ] at h1
    omega
   obtain ⟨i1, i2⟩ := ih (x / 128) (acc ++ [((128 + x % 128 : Nat) : Int)]) hp (by omega) (by simp; omega)
   have en : acc ++ num x = acc ++ [((128 + x % 128 : Nat) : Int)] ++ num (x / 128) := by
    rw [num_more (by omega)]
    simp
   rw [en]
   refine ⟨?_, ?_⟩
   ·refine Ev.step (fun q => by simp only [spec_PutNum.l0, e1.out, e2.out]; rfl) ?_
    exact Ev.pos hx (Ev.pos (by omega) i1)
   ·refine Ev.step (fun q => by simp only [impl_putNum.l0, or_swap 128 (Go.bits .and .i64 (x : Int) 127), e1.out, e2.out]; rfl) ?_
    exact Ev.pos hx (Ev.pos (by omega) i2)
  ·have e : (x : Int) % 256 = (x : Int) := by omega
   rw [num_one (by omega)]
   refine ⟨?_, ?_⟩
   ·refine Ev.step (fun q => by simp only [spec_PutNum.l0, e]; rfl) ?_
    exact Ev.neg hx (Ev.pos (by omega) (Ev.now _))
   ·refine Ev.step (fun q => by simp only [impl_putNum.l0, e]; rfl) ?_
    exact Ev.neg hx (Ev.pos (by omega) (Ev.now _))
theorem putNum_val (l : List Int) (n : Nat) (hn : n ≤ 1000000000) (hl : l.length ≤ 1099511627000) : Ev (fun q => spec_PutNum.f q l (n : Int)) (l ++ num n) ∧ Ev (fun q => impl_putNum.f q l (n : Int)) (l ++ num n) := by
 have hm : mx 0 (mn (n : Int) 1000000000) = (n : Int) := by
  unfold mx mn
  by_cases h : (1000000000 : Int) < (n : Int)
  ·omega
  ·rw [if_neg h]
   by_cases h2 : (0 : Int) < (n : Int)
   ·rw [if_pos h2]
   ·rw [if_neg h2]
    omega
 obtain ⟨i1, i2⟩ := num_val 4 n l (by omega) hn (by omega)
 refine ⟨?_, ?_⟩
 ·unfold spec_PutNum.f
  refine Ev.bind (Ev.now _) ?_
  simp only [List.nil_append, List.length_nil]
  refine Ev.pos (by omega) (Ev.bind (Ev.now _) (Ev.neg (by omega) ?_))
  refine Ev.step (fun q => by simp only [spec_PutNum.j0]; rfl) ?_
  refine Ev.neg (by omega) ?_
  exact Ev.step (fun q => by simp only [spec_PutNum.j1]) i1
 ·unfold impl_putNum.f
  rw [hm]
  exact i2
theorem putText_val (l : List Int) (s : ByteArray) (hs : s.size ≤ 1000000000) (hl : l.length ≤ 1099511626000) : Ev (fun q => spec_PutText.f q l s) (l ++ textB s) ∧ Ev (fun q => impl_putText.f q l s) (l ++ textB s) := by
 obtain ⟨i1, i2⟩ := putNum_val l s.size hs (by omega)
 have h5 := num_five hs
 unfold textB
 rw [← List.append_assoc]
 refine ⟨?_, ?_⟩
 ·unfold spec_PutText.f
  exact Ev.bind i1 (Ev.pos (by rw [List.length_append]; omega) (Ev.now _))
 ·unfold impl_putText.f
  exact Ev.bind i2 (Ev.pos (by rw [List.length_append]; omega) (Ev.now _))
theorem manyB_length (t : List ByteArray) (h : ∀ s ∈ t, s.size ≤ 1000000000) : ((manyB t).length : Int) ≤ 5 * t.length + total t := by
 induction t with
 | nil => simp [manyB_nil, total]
 | cons s t ih =>
  have i := ih (fun x hx => h x (List.mem_cons_of_mem _ hx))
  have h5 := num_five (h s (List.mem_cons_self ..))
  rw [manyB_cons, List.length_append, textB_length, total_cons, List.length_cons]
  omega
set_option maxHeartbeats 1000000 in
theorem putTexts_val (l : List Int) (t : List ByteArray) (hl : (l.length : Int) + 10 * t.length + total t ≤ 1099511620000) (ht : t.length ≤ 1000000000) (hs : ∀ s ∈ t, s.size ≤ 1000000000) :
  Ev (fun q => spec_PutTexts.f q l t) (l ++ textsB t) ∧ Ev (fun q => impl_putTexts.f q l t) (l ++ textsB t) := by
 have ht0 := total_nonneg t
 obtain ⟨e1, e2⟩ := putNum_val l t.length ht (by omega)
 have h5 := num_five ht
 have main : ∀ (d i : Nat) (acc : List Int), i + d = t.length → (acc.length : Int) + 10 * d + total (t.drop i) ≤ 1099511621000 → Ev (fun q => spec_PutTexts.l0 q t acc (i : Int)) (acc ++ manyB (t.drop i)) ∧ Ev (fun q => impl_putTexts.l0 q acc t (t.length : Int) (i : Int)) (acc ++ manyB (t.drop i)) := by
  intro d
  induction d with
  | zero =>
   intro i acc hi ha
   have hd : t.drop i = [] := List.drop_eq_nil_of_le (by omega)
   rw [hd, manyB_nil, List.append_nil]
   refine ⟨?_, ?_⟩
   ·refine Ev.step (fun q => by simp only [spec_PutTexts.l0]; rfl) ?_
    exact Ev.neg (by omega) (Ev.now _)
   ·refine Ev.step (fun q => by simp only [impl_putTexts.l0]; rfl) ?_
    exact Ev.neg (by omega) (Ev.now _)
  | succ d ih =>
   intro i acc hi ha
   have hi1 : i < t.length := by
    clear ha hl
    omega
   have hI : (i : Int) < (t.length : Int) := Int.ofNat_lt.2 hi1
   have hI0 : (0 : Int) ≤ (i : Int) := Int.natCast_nonneg i
   obtain ⟨x, hx⟩ := get_some (l := t) (i := i) hi1
   have hd := drop_one hx
   have hxs := hs x (List.mem_of_getElem? hx)
   have hx5 := num_five hxs
   have h0 := total_nonneg (t.drop (i + 1))
   rw [hd, total_cons] at ha
   obtain ⟨p1, p2⟩ := putText_val acc x hxs (by omega)
   obtain ⟨f1, f2⟩ := ih (i + 1) (acc ++ textB x) (by omega) (by rw [List.length_append, textB_length]; omega)
   have nx : wrap64 ((i : Int) + 1) = ((i + 1 : Nat) : Int) := by
    clear ha hl
    rw [w64 (by omega) (by omega)]
    omega
   have en : acc ++ manyB (t.drop i) = acc ++ textB x ++ manyB (t.drop (i + 1)) := by rw [hd, manyB_cons, List.append_assoc]
   rw [en]
   refine ⟨?_, ?_⟩
   ·refine Ev.step (fun q => by simp only [spec_PutTexts.l0]; rfl) ?_
    rw [rdOf_at hx, nx]
    refine Ev.pos hI (Ev.pos hI0 ?_)
    exact Ev.bind (f := fun q z => spec_PutTexts.l0 q t z ((i + 1 : Nat) : Int)) p1 f1
   ·refine Ev.step (fun q => by simp only [impl_putTexts.l0]; rfl) ?_
    rw [rdOf_at hx, nx]
    refine Ev.pos hI (Ev.pos hI0 (Ev.pos hI ?_))
    exact Ev.bind (f := fun q z => impl_putTexts.l0 q z t (t.length : Int) ((i + 1 : Nat) : Int)) p2 f2
 obtain ⟨f1, f2⟩ := main t.length 0 (l ++ num t.length) (by omega) (by rw [List.length_append, List.drop_zero]; omega)
 rw [List.drop_zero] at f1 f2
 unfold textsB
 rw [← List.append_assoc]
 refine ⟨?_, ?_⟩
 ·unfold spec_PutTexts.f
  exact Ev.bind e1 f1
 ·unfold impl_putTexts.f
  exact Ev.bind e2 f2
theorem bytes_nums (l : List Int) (h : InB l) : bytesOf (strOfNums l) = l := by
 unfold bytesOf
 rw [strOfNums_data, List.map_map]
 conv => rhs; rw [← List.map_id l]
 apply List.map_congr_left
 intro x hx
 have := h x hx
 simp only [Function.comp, id]
 rw [UInt8.toNat_ofNat']
 omega
theorem inB_take {l : List Int} (h : InB l) (n : Nat) : InB (l.take n) := fun x hx => h x (List.mem_of_mem_take hx)
theorem inB_drop {l : List Int} (h : InB l) (n : Nat) : InB (l.drop n) := fun x hx => h x (List.mem_of_mem_drop hx)
def TextOf (b : List Int) (at_ : Int) (s : ByteArray) (x : Int) (ok : Bool) : Prop :=
 (ok = false → s = ⟨#[]⟩ ∧ x = 0 ∧ ∀ (a : Nat) (s' : ByteArray) r, at_ = (a : Int) → b.drop a = textB s' ++ r → s'.size ≤ 1000000000 → False) ∧
 (ok = true → ∃ a : Nat, at_ = (a : Int) ∧ s.size ≤ 1000000000 ∧ b.drop a = textB s ++ b.drop (a + (textB s).length) ∧ x = ((a + (textB s).length : Nat) : Int) ∧ a + (textB s).length ≤ b.length)
theorem getText_both (b : List Int) (hb : InB b) (hl : b.length ≤ 1099511627776) (at_ : Int) (h0 : -9223372036854775808 ≤ at_) (h1 : at_ ≤ 9223372036854775807) : ∃ s x ok, Ev (fun q => spec_GetText.f q b at_) (s, x, ok) ∧ Ev (fun q => impl_GetText.f q b at_) (s, x, ok) ∧ TextOf b at_ s x ok := by
 obtain ⟨m, x, ok, e1, e2, hN⟩ := getNum_both b hb hl at_ h0 h1
 unfold spec_GetText.f impl_GetText.f
 cases ok with
 | false =>
  obtain ⟨rfl, rfl, h3⟩ := hN.1 rfl
  refine ⟨⟨#[]⟩, 0, false, Ev.bind e1 (Ev.neg (by simp) (Ev.now _)), Ev.bind e2 (Ev.neg (by simp) (Ev.now _)), fun _ => ⟨rfl, rfl, fun a s' r ha hr hs => ?_⟩, fun h => by cases h⟩
  unfold textB at hr
  rw [List.append_assoc] at hr
  exact h3 a s'.size _ ha hr hs
 | true =>
  obtain ⟨a, N, rfl, rfl, hN1, hd, rfl, hle⟩ := hN.2 rfl
  have hp := num_pos N
  obtain ⟨c, hc⟩ : ∃ c, a + (num N).length = c := ⟨_, rfl⟩
  rw [hc] at e1 e2 hd hle
  clear hN
  by_cases hg : N + c ≤ b.length
  ·have w1 : wrap64 ((b.length : Int) - (c : Int)) = (b.length : Int) - (c : Int) := w64 (by omega) (by omega)
   have w2 : wrap64 ((c : Int) + (N : Int)) = ((c + N : Nat) : Int) := by
    rw [w64 (by omega) (by omega)]
    omega
   have ht : ((c + N : Nat) : Int).toNat = c + N := Int.toNat_natCast _
   have ht2 : (c : Int).toNat = c := Int.toNat_natCast _
   have hrow : (b.take (c + N)).drop c = (b.drop c).take N := by rw [List.drop_take]; congr 1; omega
   have hlen : ((b.drop c).take N).length = N := by rw [List.length_take, List.length_drop]; omega
   have hsz : (strOfNums ((b.drop c).take N)).size = N := by rw [strOfNums_size, hlen]
   have htb : textB (strOfNums ((b.drop c).take N)) = num N ++ (b.drop c).take N := by
    unfold textB
    rw [hsz, bytes_nums _ (inB_take (inB_drop hb c) N)]
   have htl : (textB (strOfNums ((b.drop c).take N))).length = (num N).length + N := by rw [htb, List.length_append, hlen]
   refine ⟨strOfNums ((b.drop c).take N), ((c + N : Nat) : Int), true, ?_, ?_, fun h => (by cases h), fun _ => ⟨a, rfl, by rw [hsz]; exact hN1, ?_, ?_, ?_⟩⟩
   ·refine Ev.bind e1 (Ev.pos rfl ?_)
    simp only [w1, w2, ht, ht2, hrow]
    exact Ev.neg (by omega) (Ev.pos (by omega) (Ev.pos (by omega) (Ev.pos (by omega) (Ev.now _))))
   ·refine Ev.bind e2 (Ev.pos rfl ?_)
    simp only [w1, w2, ht, ht2, hrow]
    exact Ev.neg (by omega) (Ev.pos (by omega) (Ev.pos (by omega) (Ev.pos (by omega) (Ev.now _))))
   ·rw [htl, htb, hd, List.append_assoc]
    congr 1
    rw [show a + ((num N).length + N) = c + N by omega, ← List.drop_drop]
    exact (List.take_append_drop N (b.drop c)).symm
   ·rw [htl]
    congr 1
    omega
   ·rw [htl]
    omega
  ·have w1 : wrap64 ((b.length : Int) - (c : Int)) = (b.length : Int) - (c : Int) := w64 (by omega) (by omega)
   refine ⟨⟨#[]⟩, 0, false, ?_, ?_, fun _ => ⟨rfl, rfl, fun a' s' r ha hr hs => ?_⟩, fun h => by cases h⟩
   ·refine Ev.bind e1 (Ev.pos rfl ?_)
    simp only [w1]
    exact Ev.pos (by omega) (Ev.now _)
   ·refine Ev.bind e2 (Ev.pos rfl ?_)
    simp only [w1]
    exact Ev.pos (by omega) (Ev.now _)
   ·obtain rfl : a = a' := by omega
    unfold textB at hr
    rw [hd, List.append_assoc] at hr
    obtain ⟨k1, k2⟩ := num_inj _ _ _ _ hr
    have := congrArg List.length k2
    rw [List.length_append, bytesOf_length, List.length_drop] at this
    omega
def TextsOf (b : List Int) (at_ : Int) (t : List ByteArray) (x : Int) (ok : Bool) : Prop :=
 (ok = false → t = [] ∧ x = 0 ∧ ∀ (a : Nat) (t' : List ByteArray) r, at_ = (a : Int) → b.drop a = textsB t' ++ r → t'.length ≤ 200 → (∀ s ∈ t', s.size ≤ 1000000000) → False) ∧
 (ok = true → ∃ a : Nat, at_ = (a : Int) ∧ t.length ≤ 200 ∧ (∀ s ∈ t, s.size ≤ 1000000000) ∧ b.drop a = textsB t ++ b.drop (a + (textsB t).length) ∧ x = ((a + (textsB t).length : Nat) : Int) ∧ a + (textsB t).length ≤ b.length)
theorem texts_loop (b : List Int) (hb : InB b) (hl : b.length ≤ 1099511627776) (N : Nat) (hN : N ≤ 200) : ∀ (d i : Nat), i + d = N → ∀ (c : Nat) (acc : List ByteArray), c ≤ b.length → acc.length = i →
  ∃ t x ok, Ev (fun q => spec_GetTexts.l0 q b (N : Int) (c : Int) acc (i : Int)) (t, x, ok) ∧ Ev (fun q => impl_GetTexts.l0 q b (c : Int) acc (N : Int) (i : Int)) (t, x, ok) ∧
   (ok = false → t = [] ∧ x = 0 ∧ ∀ (t' : List ByteArray) r, t'.length = d → b.drop c = manyB t' ++ r → (∀ s ∈ t', s.size ≤ 1000000000) → False) ∧
   (ok = true → ∃ t' : List ByteArray, t = acc ++ t' ∧ t'.length = d ∧ (∀ s ∈ t', s.size ≤ 1000000000) ∧ b.drop c = manyB t' ++ b.drop (c + (manyB t').length) ∧ x = ((c + (manyB t').length : Nat) : Int) ∧ c + (manyB t').length ≤ b.length) := by
 intro d
 induction d with
 | zero =>
  intro i hi c acc hc ha
  refine ⟨acc, (c : Int), true, ?_, ?_, fun h => (by cases h), fun _ => ⟨[], by simp, rfl, by simp, by simp [manyB_nil], by simp [manyB_nil], by simp [manyB_nil]; omega⟩⟩
  ·refine Ev.step (fun q => by simp only [spec_GetTexts.l0]; rfl) ?_
   exact Ev.neg (by omega) (Ev.now _)
  ·refine Ev.step (fun q => by simp only [impl_GetTexts.l0]; rfl) ?_
   exact Ev.neg (by omega) (Ev.now _)
 | succ d ih =>
  intro i hi c acc hc ha
  obtain ⟨s, x, ok, e1, e2, hT⟩ := getText_both b hb hl (c : Int) (by omega) (by omega)
  have hlt : (i : Int) < (N : Int) := by omega
  have nx : wrap64 ((i : Int) + 1) = ((i + 1 : Nat) : Int) := by
   rw [w64 (by omega) (by omega)]
   omega
  cases ok with
  | false =>
   obtain ⟨rfl, rfl, h3⟩ := hT.1 rfl
   refine ⟨[], 0, false, ?_, ?_, fun _ => ⟨rfl, rfl, fun t' r ht hr hs => ?_⟩, fun h => by cases h⟩
   ·refine Ev.step (fun q => by simp only [spec_GetTexts.l0]; rfl) ?_
    exact Ev.pos hlt (Ev.bind e1 (Ev.neg (by simp) (Ev.now _)))
   ·refine Ev.step (fun q => by simp only [impl_GetTexts.l0]; rfl) ?_
    exact Ev.pos hlt (Ev.bind e2 (Ev.neg (by simp) (Ev.now _)))
   ·cases t' with
    | nil => cases ht
    | cons y t' =>
     rw [manyB_cons, List.append_assoc] at hr
     exact h3 c y _ rfl hr (hs y (List.mem_cons_self ..))
  | true =>
   obtain ⟨c', hcc, hs1, hd, rfl, hle⟩ := hT.2 rfl
   obtain rfl : c = c' := by omega
   obtain ⟨t, x2, ok2, f1, f2, f3, f4⟩ := ih (i + 1) (by omega) (c + (textB s).length) (acc ++ [s]) hle (by simp; omega)
   have hal : acc.length < 8796093022208 := by omega
   refine ⟨t, x2, ok2, ?_, ?_, fun ho => ?_, fun ho => ?_⟩
   ·refine Ev.step (fun q => by simp only [spec_GetTexts.l0, nx]; rfl) ?_
    exact Ev.pos hlt (Ev.bind e1 (Ev.pos rfl (Ev.pos hal f1)))
   ·refine Ev.step (fun q => by simp only [impl_GetTexts.l0, nx]; rfl) ?_
    exact Ev.pos hlt (Ev.bind e2 (Ev.pos rfl (Ev.pos hal f2)))
   ·obtain ⟨g1, g2, g3⟩ := f3 ho
    refine ⟨g1, g2, fun t' r ht hr hs => ?_⟩
    cases t' with
    | nil => cases ht
    | cons y t' =>
     rw [hd, manyB_cons, List.append_assoc] at hr
     obtain ⟨_, k2⟩ := textB_inj hr
     exact g3 t' r (by simpa using ht) k2 (fun s' hs' => hs s' (List.mem_cons_of_mem _ hs'))
   ·obtain ⟨t', g1, g2, g3, g4, g5, g6⟩ := f4 ho
    refine ⟨s :: t', by rw [g1]; simp, by simp [g2], fun s' hs' => ?_, ?_, ?_, ?_⟩
    ·rcases List.mem_cons.1 hs' with rfl | hs'
     ·exact hs1
     ·exact g3 s' hs'
    ·rw [manyB_cons, List.length_append, List.append_assoc, ← Nat.add_assoc]
     rw [hd]
     congr 1
    ·rw [manyB_cons, List.length_append, g5]
     congr 1
     omega
    ·rw [manyB_cons, List.length_append]
     omega
theorem getTexts_both (b : List Int) (hb : InB b) (hl : b.length ≤ 1099511627776) (at_ : Int) (h0 : -9223372036854775808 ≤ at_) (h1 : at_ ≤ 9223372036854775807) : ∃ t x ok, Ev (fun q => spec_GetTexts.f q b at_) (t, x, ok) ∧ Ev (fun q => impl_GetTexts.f q b at_) (t, x, ok) ∧ TextsOf b at_ t x ok := by
 obtain ⟨m, x, ok, e1, e2, hN⟩ := getNum_both b hb hl at_ h0 h1
 have sEnd : ∀ m x : Int, Ev (fun q => spec_GetTexts.j0 q b m x true) (([] : List ByteArray), (0 : Int), false) := fun m x => by
  refine Ev.step (fun q => by simp only [spec_GetTexts.j0]; rfl) ?_
  exact Ev.pos trivial (Ev.now _)
 have iEnd : ∀ m x : Int, Ev (fun q => impl_GetTexts.j0 q b m x true) (([] : List ByteArray), (0 : Int), false) := fun m x => by
  refine Ev.step (fun q => by simp only [impl_GetTexts.j0]; rfl) ?_
  exact Ev.pos trivial (Ev.now _)
 unfold spec_GetTexts.f impl_GetTexts.f
 cases ok with
 | false =>
  obtain ⟨rfl, rfl, h3⟩ := hN.1 rfl
  refine ⟨[], 0, false, Ev.bind e1 (Ev.neg (by simp) (sEnd _ _)), Ev.bind e2 (Ev.neg (by simp) (iEnd _ _)), fun _ => ⟨rfl, rfl, fun a t' r ha hr ht hs => ?_⟩, fun h => by cases h⟩
  unfold textsB at hr
  rw [List.append_assoc] at hr
  exact h3 a t'.length _ ha hr (by omega)
 | true =>
  obtain ⟨a, N, rfl, rfl, hN1, hd, rfl, hle⟩ := hN.2 rfl
  by_cases hg : (N : Int) > 200
  ·refine ⟨[], 0, false, ?_, ?_, fun _ => ⟨rfl, rfl, fun a' t' r ha hr ht hs => ?_⟩, fun h => by cases h⟩
   ·refine Ev.bind e1 (Ev.pos rfl ?_)
    simp only [decide_eq_true hg]
    exact sEnd _ _
   ·refine Ev.bind e2 (Ev.pos rfl ?_)
    simp only [decide_eq_true hg]
    exact iEnd _ _
   ·obtain rfl : a = a' := by omega
    unfold textsB at hr
    rw [hd, List.append_assoc] at hr
    obtain ⟨k1, k2⟩ := num_inj _ _ _ _ hr
    omega
  ·obtain ⟨t, x2, ok2, f1, f2, f3, f4⟩ := texts_loop b hb hl N (by omega) N 0 (by omega) (a + (num N).length) [] hle rfl
   refine ⟨t, x2, ok2, ?_, ?_, fun ho => ?_, fun ho => ?_⟩
   ·refine Ev.bind e1 (Ev.pos rfl ?_)
    simp only [decide_eq_false hg]
    refine Ev.step (fun q => by simp only [spec_GetTexts.j0]; rfl) ?_
    exact Ev.neg (by simp) f1
   ·refine Ev.bind e2 (Ev.pos rfl ?_)
    simp only [decide_eq_false hg]
    refine Ev.step (fun q => by simp only [impl_GetTexts.j0]; rfl) ?_
    exact Ev.neg (by simp) f2
   ·obtain ⟨g1, g2, g3⟩ := f3 ho
    refine ⟨g1, g2, fun a' t' r ha hr ht hs => ?_⟩
    obtain rfl : a = a' := by omega
    unfold textsB at hr
    rw [hd, List.append_assoc] at hr
    obtain ⟨k1, k2⟩ := num_inj _ _ _ _ hr
    exact g3 t' r k1.symm k2 hs
   ·obtain ⟨t', g1, g2, g3, g4, g5, g6⟩ := f4 ho
    rw [List.nil_append] at g1
    subst g1
    have hb2 : textsB t = num N ++ manyB t := by
     unfold textsB
     rw [g2]
    refine ⟨a, rfl, by omega, g3, ?_, ?_, ?_⟩
    ·rw [hb2, List.length_append, List.append_assoc, ← Nat.add_assoc]
     rw [hd]
     congr 1
    ·rw [hb2, List.length_append, g5]
     congr 1
     omega
    ·rw [hb2, List.length_append]
     omega
def headOk (n : Int) (s : ByteArray) : Bool := if 0 ≤ n ∧ n ≤ 200 then ((s.size : Int) == 32) else false
theorem spec_HeadOk_eq (n : Int) (s : ByteArray) : spec_HeadOk.f n s = some (headOk n s) := by
 unfold spec_HeadOk.f headOk
 rw [spec_in_eq]
 simp only [Option.bind_some]
 by_cases h : 0 ≤ n ∧ n ≤ 200
 ·rw [decide_eq_true h, if_pos h]
  rfl
 ·rw [decide_eq_false h, if_neg h]
  rfl
theorem impl_HeadOk_eq (n : Int) (s : ByteArray) : impl_HeadOk.f n s = some (headOk n s) := by
 unfold impl_HeadOk.f headOk
 rw [impl_in_eq]
 simp only [Option.bind_some]
 by_cases h : 0 ≤ n ∧ n ≤ 200
 ·rw [decide_eq_true h, if_pos h]
  rfl
 ·rw [decide_eq_false h, if_neg h]
  rfl
theorem headOk_parts {n : Int} {s : ByteArray} (h : headOk n s = true) : 0 ≤ n ∧ n ≤ 200 ∧ s.size = 32 := by
 unfold headOk at h
 by_cases hn : 0 ≤ n ∧ n ≤ 200
 ·rw [if_pos hn] at h
  have := beq_iff_eq.1 h
  omega
 ·rw [if_neg hn] at h
  cases h
theorem nums_eq {l m : List Int} (hl : InB l) (hm : InB m) : ((strOfNums l).toList == (strOfNums m).toList) = decide (l = m) := by
 by_cases h : l = m
 ·rw [decide_eq_true h, h]
  simp
 ·rw [decide_eq_false h, beq_eq_false_iff_ne]
  intro e
  apply h
  have e2 : strOfNums l = strOfNums m := bytes_ext e
  rw [← bytes_nums l hl, ← bytes_nums m hm, e2]
theorem gtext_bad (b : List Int) (hb : InB b) (hl : b.length ≤ 1099511627776) (at_ : Int) (h0 : -9223372036854775808 ≤ at_) (h1 : at_ ≤ 9223372036854775807) : Ev (fun q => impl_getter_text.f q b at_ true) ((⟨#[]⟩ : ByteArray), at_, true) := by
 obtain ⟨m, x, ok, e1, e2, hN⟩ := getText_both b hb hl at_ h0 h1
 unfold impl_getter_text.f
 exact Ev.bind e2 (Ev.pos rfl (Ev.now _))
theorem gtexts_bad (b : List Int) (hb : InB b) (hl : b.length ≤ 1099511627776) (at_ : Int) (h0 : -9223372036854775808 ≤ at_) (h1 : at_ ≤ 9223372036854775807) : Ev (fun q => impl_getter_texts.f q b at_ true) (([] : List ByteArray), at_, true) := by
 obtain ⟨m, x, ok, e1, e2, hN⟩ := getTexts_both b hb hl at_ h0 h1
 unfold impl_getter_texts.f
 exact Ev.bind e2 (Ev.pos rfl (Ev.now _))
theorem gnum_go {b : List Int} {at_ m x : Int} {ok : Bool} (h : Ev (fun q => impl_GetNum.f q b at_) (m, x, ok)) : Ev (fun q => impl_getter_num.f q b at_ false) (if ok = true then (m, x, false) else (0, at_, true)) := by
 unfold impl_getter_num.f
 refine Ev.bind h (Ev.neg (by simp) ?_)
 cases ok with
 | true => exact Ev.pos rfl (Ev.now _)
 | false => exact Ev.neg (by simp) (Ev.now _)
theorem gtext_go {b : List Int} {at_ x : Int} {s : ByteArray} {ok : Bool} (h : Ev (fun q => impl_GetText.f q b at_) (s, x, ok)) : Ev (fun q => impl_getter_text.f q b at_ false) (if ok = true then (s, x, false) else ((⟨#[]⟩ : ByteArray), at_, true)) := by
 unfold impl_getter_text.f
 refine Ev.bind h (Ev.neg (by simp) ?_)
 cases ok with
 | true => exact Ev.pos rfl (Ev.now _)
 | false => exact Ev.neg (by simp) (Ev.now _)
theorem gtexts_go {b : List Int} {at_ x : Int} {t : List ByteArray} {ok : Bool} (h : Ev (fun q => impl_GetTexts.f q b at_) (t, x, ok)) : Ev (fun q => impl_getter_texts.f q b at_ false) (if ok = true then (t, x, false) else (([] : List ByteArray), at_, true)) := by
 unfold impl_getter_texts.f
 refine Ev.bind h (Ev.neg (by simp) ?_)
 cases ok with
 | true => exact Ev.pos rfl (Ev.now _)
 | false => exact Ev.neg (by simp) (Ev.now _)
theorem manyB_inB (t : List ByteArray) : InB (manyB t) := by
 induction t with
 | nil => exact inB_nil
 | cons s t ih =>
  rw [manyB_cons]
  exact inB_app (textB_inB s) ih
theorem textsB_inB (t : List ByteArray) : InB (textsB t) := inB_app (num_inB _) (manyB_inB t)
theorem manyB_ge (t : List ByteArray) : total t + t.length ≤ ((manyB t).length : Int) := by
 induction t with
 | nil => simp [manyB_nil, total]
 | cons s t ih =>
  have := num_pos s.size
  rw [manyB_cons, List.length_append, textB_length, total_cons, List.length_cons]
  omega
theorem num_step (b : List Int) (hb : InB b) (hl : b.length ≤ 1099511627776) (a : Nat) (ha : a ≤ b.length) :
  (Ev (fun q => spec_GetNum.f q b (a : Int)) (0, 0, false) ∧ Ev (fun q => impl_getter_num.f q b (a : Int) false) (0, (a : Int), true) ∧ ∀ (n : Nat) r, b.drop a = num n ++ r → n ≤ 1000000000 → False) ∨
  (∃ n p : Nat, n ≤ 1000000000 ∧ p ≤ b.length ∧ b.drop a = num n ++ b.drop p ∧ p = a + (num n).length ∧ Ev (fun q => spec_GetNum.f q b (a : Int)) ((n : Int), (p : Int), true) ∧ Ev (fun q => impl_getter_num.f q b (a : Int) false) ((n : Int), (p : Int), false)) := by
 obtain ⟨m, x, ok, e1, e2, hN⟩ := getNum_both b hb hl (a : Int) (by omega) (by omega)
 have g := gnum_go e2
 cases ok with
 | false =>
  rw [if_neg (by simp)] at g
  obtain ⟨rfl, rfl, h3⟩ := hN.1 rfl
  exact .inl ⟨e1, g, fun n r h1 h2 => h3 a n r rfl h1 h2⟩
 | true =>
  rw [if_pos rfl] at g
  obtain ⟨a', n, ha', rfl, h1, h2, rfl, h4⟩ := hN.2 rfl
  obtain rfl : a = a' := by omega
  exact .inr ⟨n, _, h1, h4, h2, rfl, e1, g⟩
theorem text_step (b : List Int) (hb : InB b) (hl : b.length ≤ 1099511627776) (a : Nat) (ha : a ≤ b.length) :
  (Ev (fun q => spec_GetText.f q b (a : Int)) ((⟨#[]⟩ : ByteArray), 0, false) ∧ Ev (fun q => impl_getter_text.f q b (a : Int) false) ((⟨#[]⟩ : ByteArray), (a : Int), true) ∧ ∀ (s : ByteArray) r, b.drop a = textB s ++ r → s.size ≤ 1000000000 → False) ∨
  (∃ (s : ByteArray) (p : Nat), s.size ≤ 1000000000 ∧ p ≤ b.length ∧ b.drop a = textB s ++ b.drop p ∧ p = a + (textB s).length ∧ Ev (fun q => spec_GetText.f q b (a : Int)) (s, (p : Int), true) ∧ Ev (fun q => impl_getter_text.f q b (a : Int) false) (s, (p : Int), false)) := by
 obtain ⟨m, x, ok, e1, e2, hN⟩ := getText_both b hb hl (a : Int) (by omega) (by omega)
 have g := gtext_go e2
 cases ok with
 | false =>
  rw [if_neg (by simp)] at g
  obtain ⟨rfl, rfl, h3⟩ := hN.1 rfl
  exact .inl ⟨e1, g, fun n r h1 h2 => h3 a n r rfl h1 h2⟩
 | true =>
  rw [if_pos rfl] at g
  obtain ⟨a', ha', h1, h2, rfl, h4⟩ := hN.2 rfl
  obtain rfl : a = a' := by omega
  exact .inr ⟨m, _, h1, h4, h2, rfl, e1, g⟩
theorem texts_step (b : List Int) (hb : InB b) (hl : b.length ≤ 1099511627776) (a : Nat) (ha : a ≤ b.length) :
  (Ev (fun q => spec_GetTexts.f q b (a : Int)) (([] : List ByteArray), 0, false) ∧ Ev (fun q => impl_getter_texts.f q b (a : Int) false) (([] : List ByteArray), (a : Int), true) ∧ ∀ (t : List ByteArray) r, b.drop a = textsB t ++ r → t.length ≤ 200 → (∀ s ∈ t, s.size ≤ 1000000000) → False) ∨
  (∃ (t : List ByteArray) (p : Nat), t.length ≤ 200 ∧ (∀ s ∈ t, s.size ≤ 1000000000) ∧ p ≤ b.length ∧ b.drop a = textsB t ++ b.drop p ∧ p = a + (textsB t).length ∧ Ev (fun q => spec_GetTexts.f q b (a : Int)) (t, (p : Int), true) ∧ Ev (fun q => impl_getter_texts.f q b (a : Int) false) (t, (p : Int), false)) := by
 obtain ⟨m, x, ok, e1, e2, hN⟩ := getTexts_both b hb hl (a : Int) (by omega) (by omega)
 have g := gtexts_go e2
 cases ok with
 | false =>
  rw [if_neg (by simp)] at g
  obtain ⟨rfl, rfl, h3⟩ := hN.1 rfl
  exact .inl ⟨e1, g, fun n r h1 h2 h5 => h3 a n r rfl h1 h2 h5⟩
 | true =>
  rw [if_pos rfl] at g
  obtain ⟨a', ha', h1, h5, h2, rfl, h4⟩ := hN.2 rfl
  obtain rfl : a = a' := by omega
  exact .inr ⟨m, _, h1, h5, h4, h2, rfl, e1, g⟩
theorem text_any (b : List Int) (hb : InB b) (hl : b.length ≤ 1099511627776) (x : Int) (h : 0 ≤ x ∧ x ≤ b.length) : ∃ m y ok, Ev (fun q => spec_GetText.f q b x) (m, y, ok) ∧ 0 ≤ y ∧ y ≤ b.length := by
 obtain ⟨a, rfl⟩ := Int.eq_ofNat_of_zero_le h.1
 rcases text_step b hb hl a (by omega) with ⟨e, _⟩ | ⟨n, p, _, h2, _, _, e, _⟩
 ·exact ⟨_, _, _, e, by omega, by omega⟩
 ·exact ⟨_, _, _, e, by omega, by omega⟩
theorem texts_any (b : List Int) (hb : InB b) (hl : b.length ≤ 1099511627776) (x : Int) (h : 0 ≤ x ∧ x ≤ b.length) : ∃ m y ok, Ev (fun q => spec_GetTexts.f q b x) (m, y, ok) ∧ 0 ≤ y ∧ y ≤ b.length := by
 obtain ⟨a, rfl⟩ := Int.eq_ofNat_of_zero_le h.1
 rcases texts_step b hb hl a (by omega) with ⟨e, _⟩ | ⟨n, p, _, _, h2, _, _, e, _⟩
 ·exact ⟨_, _, _, e, by omega, by omega⟩
 ·exact ⟨_, _, _, e, by omega, by omega⟩
def bodyB (n : Nat) (s : ByteArray) (t : List ByteArray) : List Int := num n ++ (textB s ++ textsB t)
def sumB (l : List Int) : List Int := bytesOf ((sha l).extract 0 4)
def commitB (n : Nat) (s : ByteArray) (t : List ByteArray) : List Int := num (bodyB n s t).length ++ (bodyB n s t ++ sumB (bodyB n s t))
theorem sumB_length (l : List Int) : (sumB l).length = 4 := by
 unfold sumB
 rw [bytesOf_length, ByteArray.size_extract, sha_size]
 rfl
theorem bodyB_inB (n : Nat) (s : ByteArray) (t : List ByteArray) : InB (bodyB n s t) := inB_app (num_inB _) (inB_app (textB_inB _) (textsB_inB _))
theorem sumB_inB (l : List Int) : InB (sumB l) := inB_text _
theorem commitB_inB (n : Nat) (s : ByteArray) (t : List ByteArray) : InB (commitB n s t) := inB_app (num_inB _) (inB_app (bodyB_inB _ _ _) (sumB_inB _))
theorem bodyB_ge (n : Nat) (s : ByteArray) (t : List ByteArray) : total t + t.length + s.size ≤ ((bodyB n s t).length : Int) := by
 have h := manyB_ge t
 unfold bodyB textsB
 rw [List.length_append, List.length_append, List.length_append, textB_length]
 omega
theorem bodyB_inj {n m : Nat} {s u : ByteArray} {t v : List ByteArray} {r q : List Int} (h : bodyB n s t ++ r = bodyB m u v ++ q) : n = m ∧ s = u ∧ t = v ∧ r = q := by
 unfold bodyB at h
 simp only [List.append_assoc] at h
 obtain ⟨h1, h⟩ := num_inj _ _ _ _ h
 obtain ⟨h2, h⟩ := textB_inj h
 obtain ⟨h3, h⟩ := textsB_inj h
 exact ⟨h1, h2, h3, h⟩
theorem commitB_inj {n m : Nat} {s u : ByteArray} {t v : List ByteArray} {r q : List Int} (h : commitB n s t ++ r = commitB m u v ++ q) : n = m ∧ s = u ∧ t = v ∧ r = q := by
 unfold commitB at h
 simp only [List.append_assoc] at h
 obtain ⟨h1, h⟩ := num_inj _ _ _ _ h
 obtain ⟨h2, h3⟩ := List.append_inj h h1
 obtain ⟨a, b, c, _⟩ := bodyB_inj (show bodyB n s t ++ [] = bodyB m u v ++ [] by rw [h2])
 subst a b c
 obtain ⟨_, h4⟩ := List.append_inj h3 rfl
 exact ⟨rfl, rfl, rfl, h4⟩
theorem putCommit_val (n : Nat) (s : ByteArray) (t : List ByteArray) (hn : n ≤ 200) (hs : s.size ≤ 1000) (ht : t.length ≤ 1000000) (htt : total t ≤ 100000000) (hx : ∀ x ∈ t, x.size ≤ 1000000000) : Ev (fun q => impl_putCommit.f q (n : Int) s t) (commitB n s t) := by
 have ht0 := total_nonneg t
 have a2 := (putNum_val [] n (by omega) (by simp)).2
 have h5 := num_five (show n ≤ 1000000000 by omega)
 have hs5 := num_five (show s.size ≤ 1000000000 by omega)
 have b2 := (putText_val ([] ++ num n) s (by omega) (by simp; omega)).2
 have c2 := (putTexts_val ([] ++ num n ++ textB s) t (by rw [List.length_append, textB_length]; simp; omega) (by omega) hx).2
 have eb : [] ++ num n ++ textB s ++ textsB t = bodyB n s t := by
  unfold bodyB
  simp
 rw [eb] at c2
 have hm := manyB_length t hx
 have ht5 := num_five (show t.length ≤ 1000000000 by omega)
 have hbl : (bodyB n s t).length ≤ 1000000000 := by
  unfold bodyB textsB
  rw [List.length_append, List.length_append, List.length_append, textB_length]
  omega
 have h4 : ((sha (bodyB n s t)).extract 0 4).size = 4 := by
  rw [ByteArray.size_extract, sha_size]
  rfl
 have h32 : (sha (bodyB n s t)).size = 32 := sha_size _
 have d2 := (putNum_val [] (bodyB n s t).length hbl (by simp)).2
 have hd5 := num_five hbl
 rw [List.nil_append] at d2
 unfold impl_putCommit.f commitB sumB
 refine Ev.bind a2 (Ev.bind b2 (Ev.bind c2 (Ev.bind d2 (Ev.pos (by omega) (Ev.bind (Ev.now _) (Ev.bind (Ev.const (impl_Digest_is (bodyB n s t) (by omega))) ?_))))))
 rw [← List.append_assoc]
 exact Ev.pos (by omega) (Ev.pos (by omega) (Ev.pos (by rw [List.length_append, h4]; omega) (Ev.now _)))
theorem PutCommit_val (n : Int) (s : ByteArray) (t : List ByteArray) (htt : total t ≤ 100000000) (ht : t.length ≤ 1000000) (hx : ∀ x ∈ t, x.size ≤ 1000000000) : Ev (fun q => impl_PutCommit.f q n s t) (if headOk n s = true ∧ 1 ≤ t.length ∧ t.length ≤ 200 then commitB n.toNat s t else []) := by
 unfold impl_PutCommit.f
 by_cases h : headOk n s = true
 ·obtain ⟨h1, h2, h3⟩ := headOk_parts h
  refine Ev.bind (Ev.const (impl_HeadOk_eq n s)) (Ev.pos h ?_)
  by_cases hl : 1 ≤ (t.length : Int) ∧ (t.length : Int) ≤ 200
  ·rw [if_pos ⟨h, by omega, by omega⟩]
   have hv := putCommit_val n.toNat s t (by omega) (by omega) ht htt hx
   rw [show ((n.toNat : Nat) : Int) = n by omega] at hv
   exact Ev.bind (Ev.const (impl_in_eq _ _ _)) (Ev.pos (decide_eq_true hl) (Ev.bind hv (Ev.now _)))
  ·rw [if_neg (fun q => hl ⟨by omega, by omega⟩)]
   exact Ev.bind (Ev.const (impl_in_eq _ _ _)) (Ev.neg (by rw [decide_eq_false hl]; simp) (Ev.now _))
 ·rw [if_neg (fun q => h q.1)]
  exact Ev.bind (Ev.const (impl_HeadOk_eq n s)) (Ev.neg h (Ev.now _))
theorem commitB_length (n : Nat) (s : ByteArray) (t : List ByteArray) : (commitB n s t).length = (num (bodyB n s t).length).length + (bodyB n s t).length + 4 := by
 unfold commitB
 rw [List.length_append, List.length_append, sumB_length]
 omega
def CommitOf (b : List Int) (at_ n : Int) (s : ByteArray) (t : List ByteArray) (nx : Int) (ok : Bool) : Prop :=
 (ok = true → ∃ a N : Nat, at_ = (a : Int) ∧ n = (N : Int) ∧ headOk n s = true ∧ 1 ≤ t.length ∧ b.drop a = commitB N s t ++ b.drop (a + (commitB N s t).length) ∧ nx = ((a + (commitB N s t).length : Nat) : Int) ∧ a + (commitB N s t).length ≤ b.length) ∧
 (ok = false → n = 0 ∧ s = ⟨#[]⟩ ∧ t = [] ∧ nx = at_ ∧ ∀ (a N : Nat) (s' : ByteArray) (t' : List ByteArray) r, at_ = (a : Int) → b.drop a = commitB N s' t' ++ r → headOk (N : Int) s' = true → 1 ≤ t'.length → t'.length ≤ 200 → (∀ x ∈ t', x.size ≤ 1000000000) → False)
set_option maxHeartbeats 1000000 in
theorem getCommitI (b : List Int) (hb : InB b) (hl : b.length ≤ 10000000) (at_ : Int) (h0 : -9223372036854775808 ≤ at_) (h1 : at_ ≤ 9223372036854775807) :
  ∃ n s t nx ok, Ev (fun q => impl_GetCommit.f q b at_) (n, s, t, nx, ok) ∧ t.length ≤ 200 ∧ CommitOf b at_ n s t nx ok := by
 obtain ⟨m, x, ok, _, e2, hN⟩ := getNum_both b hb (by omega) at_ h0 h1
 have jT : ∀ m x : Int, Ev (fun q => impl_GetCommit.j0 q b at_ m x true) (0, (⟨#[]⟩ : ByteArray), ([] : List ByteArray), at_, false) := fun m x => by
  refine Ev.step (fun q => by simp only [impl_GetCommit.j0]; rfl) ?_
  exact Ev.pos trivial (Ev.now _)
 have bad : ∀ P : Prop, (∀ (a N : Nat) (s' : ByteArray) (t' : List ByteArray) r, at_ = (a : Int) → b.drop a = commitB N s' t' ++ r → headOk (N : Int) s' = true → 1 ≤ t'.length → t'.length ≤ 200 → (∀ x ∈ t', x.size ≤ 1000000000) → False) → CommitOf b at_ 0 ⟨#[]⟩ [] at_ false := fun _ h => ⟨fun q => (by cases q), fun _ => ⟨rfl, rfl, rfl, rfl, h⟩⟩
 unfold impl_GetCommit.f
 cases ok with
 | false =>
  obtain ⟨rfl, rfl, h3⟩ := hN.1 rfl
  refine ⟨0, ⟨#[]⟩, [], at_, false, Ev.bind e2 (Ev.neg (by simp) (jT _ _)), by simp, bad True fun a N s' t' r ha hr _ _ _ _ => ?_⟩
  unfold commitB at hr
  rw [List.append_assoc] at hr
  refine h3 a _ _ ha hr ?_
  have := congrArg List.length hr
  simp only [List.length_append, List.length_drop] at this
  omega
 | true =>
  obtain ⟨a, m, rfl, rfl, hm, hd, rfl, hle⟩ := hN.2 rfl
  have hp1 := num_pos m
  obtain ⟨p, hp⟩ : ∃ p, a + (num m).length = p := ⟨_, rfl⟩
  rw [hp] at e2 hd hle
  clear hN
  have cut : ∀ (N : Nat) (s' : ByteArray) (t' : List ByteArray) r, b.drop a = commitB N s' t' ++ r → m = (bodyB N s' t').length ∧ b.drop p = bodyB N s' t' ++ (sumB (bodyB N s' t') ++ r) := fun N s' t' r hr => by
   unfold commitB at hr
   rw [hd, List.append_assoc, List.append_assoc] at hr
   exact num_inj _ _ _ _ hr
  have w1 : wrap64 ((b.length : Int) - (p : Int)) = (b.length : Int) - (p : Int) := w64 (by omega) (by omega)
  have w2 : wrap64 ((b.length : Int) - (p : Int) - 4) = (b.length : Int) - (p : Int) - 4 := w64 (by omega) (by omega)
  by_cases hg : (m : Int) > (b.length : Int) - (p : Int) - 4
  ·refine ⟨0, ⟨#[]⟩, [], (a : Int), false, ?_, by simp, bad True fun a' N s' t' r ha hr _ _ _ _ => ?_⟩
   ·refine Ev.bind e2 (Ev.pos rfl ?_)
    simp only [w1, w2, decide_eq_true hg]
    exact jT _ _
   ·obtain rfl : a = a' := by omega
    obtain ⟨k1, k2⟩ := cut N s' t' r hr
    have := congrArg List.length k2
    simp only [List.length_append, List.length_drop, sumB_length] at this
    omega
  ·have w3 : wrap64 ((p : Int) + (m : Int)) = ((p + m : Nat) : Int) := by
    rw [w64 (by omega) (by omega)]
    omega
   have w4 : wrap64 (((p + m : Nat) : Int) + 4) = ((p + m + 4 : Nat) : Int) := by
    rw [w64 (by omega) (by omega)]
    omega
   have t1 : ((p + m : Nat) : Int).toNat = p + m := Int.toNat_natCast _
   have t2 : (p : Int).toNat = p := Int.toNat_natCast _
   have t3 : ((p + m + 4 : Nat) : Int).toNat = p + m + 4 := Int.toNat_natCast _
   have t4 : (a : Int).toNat = a := Int.toNat_natCast _
   obtain ⟨B, hB⟩ : ∃ B, (b.take (p + m)).drop p = B := ⟨_, rfl⟩
   have hB2 : B = (b.drop p).take m := by
    rw [← hB, List.drop_take]
    congr 1
    omega
   have hBl : B.length = m := by
    rw [hB2, List.length_take, List.length_drop]
    omega
   have hBb : InB B := by
    rw [hB2]
    exact inB_take (inB_drop hb p) m
   have cutB : ∀ (N : Nat) (s' : ByteArray) (t' : List ByteArray) r, b.drop a = commitB N s' t' ++ r → B = bodyB N s' t' := fun N s' t' r hr => by
    obtain ⟨k1, k2⟩ := cut N s' t' r hr
    rw [hB2, k2, k1, List.take_left]
   obtain ⟨E, hE⟩ : ∃ E, (b.take (p + m + 4)).drop a = E := ⟨_, rfl⟩
   have start : ∀ r, Ev (fun q => (impl_getter_num.f q B 0 false).bind fun bt7 => ((impl_getter_text.f q B bt7.2.1 bt7.2.2).bind fun bt11 => ((impl_getter_texts.f q B bt11.2.1 bt11.2.2).bind fun bt14 => (if bt14.2.2 = true then (some (0, (⟨#[]⟩ : ByteArray), ([] : List ByteArray), (a : Int), false)) else ((impl_PutCommit.f q bt7.1 bt11.1 bt14.1).bind fun t19 => ((bytes_Equal.f t19 E).bind fun t23 => (if t23 = true then (some (bt7.1, bt11.1, bt14.1, ((p + m + 4 : Nat) : Int), true)) else (some (0, (⟨#[]⟩ : ByteArray), ([] : List ByteArray), (a : Int), false))))))))) r → Ev (fun q => (impl_GetNum.f q b (a : Int)).bind fun bt2 => (if bt2.2.2 = true then (impl_GetCommit.j0 q b (a : Int) bt2.1 bt2.2.1 (decide (bt2.1 > (wrap64 ((wrap64 ((b.length : Int) - bt2.2.1)) - 4))))) else (impl_GetCommit.j0 q b (a : Int) bt2.1 bt2.2.1 true))) r := fun r hr => by
    refine Ev.bind e2 (Ev.pos rfl ?_)
    simp only [w1, w2, decide_eq_false hg]
    refine Ev.step (fun q => by simp only [impl_GetCommit.j0, w3, w4, t1, t2, t3, t4, hB, hE]; rfl) ?_
    refine Ev.neg (by simp) (Ev.pos (by omega) (Ev.pos (by omega) (Ev.pos (by omega) ?_)))
    have i1 : (0 : Int) ≤ (a : Int) := by omega
    have i2 : (a : Int) ≤ ((p + m + 4 : Nat) : Int) := by omega
    have i3 : ((p + m + 4 : Nat) : Int) ≤ (b.length : Int) := by omega
    simp only [if_pos i1, if_pos i2, if_pos i3]
    exact hr
   rcases num_step B hBb (by omega) 0 (by omega) with ⟨_, g0, z0⟩ | ⟨v0, p1, q0, l0, y0, r0, _, g0⟩
   ·refine ⟨0, ⟨#[]⟩, [], (a : Int), false, start _ (Ev.bind g0 (Ev.bind (gtext_bad B hBb (by omega) 0 (by omega) (by omega)) (Ev.bind (gtexts_bad B hBb (by omega) 0 (by omega) (by omega)) (Ev.pos rfl (Ev.now _))))), by simp, bad True fun a' N s' t' r ha hr hk c1 c2 c3 => ?_⟩
    obtain rfl : a = a' := by omega
    have hh := headOk_parts hk
    exact z0 N _ (show B.drop 0 = num N ++ (textB s' ++ textsB t') from cutB N s' t' r hr) (by omega)
   ·rcases text_step B hBb (by omega) p1 (by omega) with ⟨_, g1, z1⟩ | ⟨v1, p2, q1, l1, y1, r1, _, g1⟩
    ·refine ⟨0, ⟨#[]⟩, [], (a : Int), false, start _ (Ev.bind g0 (Ev.bind g1 (Ev.bind (gtexts_bad B hBb (by omega) (p1 : Int) (by omega) (by omega)) (Ev.pos rfl (Ev.now _))))), by simp, bad True fun a' N s' t' r ha hr hk c1 c2 c3 => ?_⟩
     obtain rfl : a = a' := by omega
     have hh := headOk_parts hk
     have d0 : B.drop 0 = num N ++ (textB s' ++ textsB t') := cutB N s' t' r hr
     have d1 := (num_inj _ _ _ _ (y0.symm.trans d0)).2
     exact z1 s' _ d1 (by omega)
    ·rcases texts_step B hBb (by omega) p2 (by omega) with ⟨_, g2, z2⟩ | ⟨v2, p3, q2, s2, l2, y2, r2, _, g2⟩
     ·refine ⟨0, ⟨#[]⟩, [], (a : Int), false, start _ (Ev.bind g0 (Ev.bind g1 (Ev.bind g2 (Ev.pos rfl (Ev.now _))))), by simp, bad True fun a' N s' t' r ha hr hk c1 c2 c3 => ?_⟩
      obtain rfl : a = a' := by omega
      have d0 : B.drop 0 = num N ++ (textB s' ++ textsB t') := cutB N s' t' r hr
      have d1 := (num_inj _ _ _ _ (y0.symm.trans d0)).2
      have d2 := (textB_inj (y1.symm.trans d1)).2
      exact z2 t' [] (by rw [List.append_nil]; exact d2) c2 c3
     ·have hBB : B = bodyB v0 v1 v2 ++ B.drop p3 := by
       have e : B.drop 0 = num v0 ++ (textB v1 ++ (textsB v2 ++ B.drop p3)) := by rw [y0, y1, y2]
       unfold bodyB
       simp only [List.append_assoc]
       exact e
      have hge := bodyB_ge v0 v1 v2
      have hBBl : (bodyB v0 v1 v2).length ≤ m := by
       have := congrArg List.length hBB
       rw [List.length_append] at this
       omega
      have ht0 := total_nonneg v2
      have hP := PutCommit_val (v0 : Int) v1 v2 (by omega) (by omega) s2
      rw [Int.toNat_natCast] at hP
      have hEb : InB E := by
       rw [← hE]
       exact inB_drop (inB_take hb _) _
      have hEl : E.length = (num m).length + m + 4 := by
       rw [← hE, List.length_drop, List.length_take]
       omega
      have hEd : b.drop a = E ++ b.drop (p + m + 4) := by
       have e3 : b.drop a = (b.drop a).take (p + m + 4 - a) ++ (b.drop a).drop (p + m + 4 - a) := (List.take_append_drop _ _).symm
       rw [List.drop_drop, ← List.drop_take, show a + (p + m + 4 - a) = p + m + 4 by omega, hE] at e3
       exact e3
      obtain ⟨W, hW⟩ : ∃ W, (if headOk (v0 : Int) v1 = true ∧ 1 ≤ v2.length ∧ v2.length ≤ 200 then commitB v0 v1 v2 else []) = W := ⟨_, rfl⟩
      rw [hW] at hP
      have hWb : InB W := by
       rw [← hW]
       split
       ·exact commitB_inB _ _ _
       ·exact inB_nil
      have hQ : bytes_Equal.f W E = some (decide (W = E)) := by
       unfold bytes_Equal.f
       rw [nums_eq hWb hEb]
      by_cases he : W = E
      ·have hc : headOk (v0 : Int) v1 = true ∧ 1 ≤ v2.length ∧ v2.length ≤ 200 := Classical.byContradiction fun hn => by
        rw [if_neg hn] at hW
        rw [← hW] at he
        have := congrArg List.length he
        rw [hEl] at this
        simp only [List.length_nil] at this
        omega
       rw [if_pos hc] at hW
       have hlen : (commitB v0 v1 v2).length = (num m).length + m + 4 := by rw [hW, he, hEl]
       refine ⟨(v0 : Int), v1, v2, ((p + m + 4 : Nat) : Int), true, start _ (Ev.bind g0 (Ev.bind g1 (Ev.bind g2 (Ev.neg (by simp) (Ev.bind hP (Ev.bind (Ev.const hQ) (Ev.pos (decide_eq_true he) (Ev.now _)))))))), q2, fun _ => ⟨a, v0, rfl, rfl, hc.1, hc.2.1, ?_, ?_, ?_⟩, fun h => (by cases h)⟩
       ·rw [hlen, hW, he, show a + ((num m).length + m + 4) = p + m + 4 by omega]
        exact hEd
       ·rw [hlen]
        congr 1
        omega
       ·rw [hlen]
        omega
      ·refine ⟨0, ⟨#[]⟩, [], (a : Int), false, start _ (Ev.bind g0 (Ev.bind g1 (Ev.bind g2 (Ev.neg (by simp) (Ev.bind hP (Ev.bind (Ev.const hQ) (Ev.neg (by rw [decide_eq_false he]; simp) (Ev.now _)))))))), by simp, bad True fun a' N s' t' r ha hr hk c1 c2 c3 => ?_⟩
       obtain rfl : a = a' := by omega
       have hb2 := cutB N s' t' r hr
       obtain ⟨k1, k2⟩ := cut N s' t' r hr
       obtain ⟨rfl, rfl, rfl, _⟩ := bodyB_inj (show bodyB v0 v1 v2 ++ B.drop p3 = bodyB N s' t' ++ [] by rw [List.append_nil, ← hBB, hb2])
       rw [if_pos ⟨hk, c1, c2⟩] at hW
       apply he
       rw [← hW]
       have hcl := commitB_length v0 v1 v2
       rw [← k1] at hcl
       exact (List.append_inj (hr.symm.trans hEd) (by rw [hcl, hEl])).1
theorem nums_bytes (s : ByteArray) : strOfNums (bytesOf s) = s := bytesOf_inj (bytes_nums _ (inB_text s))
theorem sum_iff {G : List Int} (hG : InB G) (B : List Int) : (strOfNums G).toList = ((sha B).extract 0 4).toList ↔ G = sumB B := by
 unfold sumB
 constructor
 ·intro h
  rw [← bytes_nums G hG, bytes_ext h]
 ·intro h
  rw [h, nums_bytes]
set_option maxHeartbeats 1000000 in
theorem getCommitS (b : List Int) (hb : InB b) (hl : b.length ≤ 10000000) (at_ : Int) (h0 : -9223372036854775808 ≤ at_) (h1 : at_ ≤ 9223372036854775807) :
  ∃ n s t nx ok, Ev (fun q => spec_GetCommit.f q b at_) (n, s, t, nx, ok) ∧ t.length ≤ 200 ∧ CommitOf b at_ n s t nx ok := by
 obtain ⟨m, x, ok, e2, _, hN⟩ := getNum_both b hb (by omega) at_ h0 h1
 have jT : ∀ m x : Int, Ev (fun q => spec_GetCommit.j0 q b at_ m x true) (0, (⟨#[]⟩ : ByteArray), ([] : List ByteArray), at_, false) := fun m x => by
  refine Ev.step (fun q => by simp only [spec_GetCommit.j0]; rfl) ?_
  exact Ev.pos trivial (Ev.now _)
 have bad : ∀ P : Prop, (∀ (a N : Nat) (s' : ByteArray) (t' : List ByteArray) r, at_ = (a : Int) → b.drop a = commitB N s' t' ++ r → headOk (N : Int) s' = true → 1 ≤ t'.length → t'.length ≤ 200 → (∀ x ∈ t', x.size ≤ 1000000000) → False) → CommitOf b at_ 0 ⟨#[]⟩ [] at_ false := fun _ h => ⟨fun q => (by cases q), fun _ => ⟨rfl, rfl, rfl, rfl, h⟩⟩
 unfold spec_GetCommit.f
 cases ok with
 | false =>
  obtain ⟨rfl, rfl, h3⟩ := hN.1 rfl
  refine ⟨0, ⟨#[]⟩, [], at_, false, Ev.bind e2 (Ev.neg (by simp) (jT _ _)), by simp, bad True fun a N s' t' r ha hr _ _ _ _ => ?_⟩
  unfold commitB at hr
  rw [List.append_assoc] at hr
  refine h3 a _ _ ha hr ?_
  have := congrArg List.length hr
  simp only [List.length_append, List.length_drop] at this
  omega
 | true =>
  obtain ⟨a, m, rfl, rfl, hm, hd, rfl, hle⟩ := hN.2 rfl
  have hp1 := num_pos m
  obtain ⟨p, hp⟩ : ∃ p, a + (num m).length = p := ⟨_, rfl⟩
  rw [hp] at e2 hd hle
  clear hN
  have cut : ∀ (N : Nat) (s' : ByteArray) (t' : List ByteArray) r, b.drop a = commitB N s' t' ++ r → m = (bodyB N s' t').length ∧ b.drop p = bodyB N s' t' ++ (sumB (bodyB N s' t') ++ r) := fun N s' t' r hr => by
   unfold commitB at hr
   rw [hd, List.append_assoc, List.append_assoc] at hr
   exact num_inj _ _ _ _ hr
  have w1 : wrap64 ((b.length : Int) - (p : Int)) = (b.length : Int) - (p : Int) := w64 (by omega) (by omega)
  have w2 : wrap64 ((b.length : Int) - (p : Int) - 4) = (b.length : Int) - (p : Int) - 4 := w64 (by omega) (by omega)
  by_cases hg : (m : Int) > (b.length : Int) - (p : Int) - 4
  ·refine ⟨0, ⟨#[]⟩, [], (a : Int), false, ?_, by simp, bad True fun a' N s' t' r ha hr _ _ _ _ => ?_⟩
   ·refine Ev.bind e2 (Ev.pos rfl ?_)
    simp only [w1, w2, decide_eq_true hg]
    exact jT _ _
   ·obtain rfl : a = a' := by omega
    obtain ⟨k1, k2⟩ := cut N s' t' r hr
    have := congrArg List.length k2
    simp only [List.length_append, List.length_drop, sumB_length] at this
    omega
  ·have w3 : wrap64 ((p : Int) + (m : Int)) = ((p + m : Nat) : Int) := by
    rw [w64 (by omega) (by omega)]
    omega
   have w4 : wrap64 (((p + m : Nat) : Int) + 4) = ((p + m + 4 : Nat) : Int) := by
    rw [w64 (by omega) (by omega)]
    omega
   have t1 : ((p + m : Nat) : Int).toNat = p + m := Int.toNat_natCast _
   have t2 : (p : Int).toNat = p := Int.toNat_natCast _
   have t3 : ((p + m + 4 : Nat) : Int).toNat = p + m + 4 := Int.toNat_natCast _
   obtain ⟨B, hB⟩ : ∃ B, (b.take (p + m)).drop p = B := ⟨_, rfl⟩
   have hB2 : B = (b.drop p).take m := by
    rw [← hB, List.drop_take]
    congr 1
    omega
   have hBl : B.length = m := by
    rw [hB2, List.length_take, List.length_drop]
    omega
   have hBb : InB B := by
    rw [hB2]
    exact inB_take (inB_drop hb p) m
   obtain ⟨G, hG⟩ : ∃ G, (b.take (p + m + 4)).drop (p + m) = G := ⟨_, rfl⟩
   have hGb : InB G := by
    rw [← hG]
    exact inB_drop (inB_take hb _) _
   have hBG : b.drop p = B ++ (G ++ b.drop (p + m + 4)) := by
    have i1 : b.drop p = (b.drop p).take m ++ (b.drop p).drop m := (List.take_append_drop _ _).symm
    have i2 : b.drop (p + m) = (b.drop (p + m)).take 4 ++ (b.drop (p + m)).drop 4 := (List.take_append_drop _ _).symm
    have i3 : G = (b.drop (p + m)).take 4 := by
     rw [← hG, List.drop_take]
     congr 1
     omega
    rw [List.drop_drop] at i1 i2
    rw [← i3] at i2
    rw [← hB2, i2] at i1
    exact i1
   have cutB : ∀ (N : Nat) (s' : ByteArray) (t' : List ByteArray) r, b.drop a = commitB N s' t' ++ r → B = bodyB N s' t' ∧ G = sumB (bodyB N s' t') := fun N s' t' r hr => by
    obtain ⟨k1, k2⟩ := cut N s' t' r hr
    rw [hBG] at k2
    obtain ⟨k3, k4⟩ := List.append_inj k2 (by rw [hBl, k1])
    refine ⟨k3, (List.append_inj k4 ?_).1⟩
    rw [sumB_length, ← hG, List.length_drop, List.length_take]
    omega
   have start : ∀ r, Ev (fun q => (spec_GetNum.f q B 0).bind fun bt9 => ((spec_GetText.f q B bt9.2.1).bind fun bt12 => ((spec_GetTexts.f q B bt12.2.1).bind fun bt15 => (if bt9.2.2 = true then (if bt12.2.2 = true then (if bt15.2.2 = true then (if bt15.2.1 = (B.length : Int) then ((spec_HeadOk.f bt9.1 bt12.1).bind fun t21 => (if t21 = true then (if (bt15.1.length : Int) = 0 then (some (0, (⟨#[]⟩ : ByteArray), (([] : List ByteArray)), (a : Int), false)) else ((spec_Digest.f q B).bind fun t26 => (if 4 ≤ (t26.size : Int) then (if (strOfNums G).toList = (t26.extract 0 4).toList then (some (bt9.1, bt12.1, bt15.1, ((p + m + 4 : Nat) : Int), true)) else (some (0, (⟨#[]⟩ : ByteArray), (([] : List ByteArray)), (a : Int), false))) else (none)))) else (some (0, (⟨#[]⟩ : ByteArray), (([] : List ByteArray)), (a : Int), false)))) else (some (0, (⟨#[]⟩ : ByteArray), (([] : List ByteArray)), (a : Int), false))) else (some (0, (⟨#[]⟩ : ByteArray), (([] : List ByteArray)), (a : Int), false))) else (some (0, (⟨#[]⟩ : ByteArray), (([] : List ByteArray)), (a : Int), false))) else (some (0, (⟨#[]⟩ : ByteArray), (([] : List ByteArray)), (a : Int), false)))))) r → Ev (fun q => (spec_GetNum.f q b (a : Int)).bind fun bt2 => (if bt2.2.2 = true then (spec_GetCommit.j0 q b (a : Int) bt2.1 bt2.2.1 (decide (bt2.1 > (wrap64 ((wrap64 ((b.length : Int) - bt2.2.1)) - 4))))) else (spec_GetCommit.j0 q b (a : Int) bt2.1 bt2.2.1 true))) r := fun r hr => by
    refine Ev.bind e2 (Ev.pos rfl ?_)
    simp only [w1, w2, decide_eq_false hg]
    have i1 : (0 : Int) ≤ ((p + m : Nat) : Int) := by omega
    have i2 : ((p + m : Nat) : Int) ≤ ((p + m + 4 : Nat) : Int) := by omega
    have i3 : ((p + m + 4 : Nat) : Int) ≤ (b.length : Int) := by omega
    have i4 : (0 : Nat) ≤ 4 := by decide
    refine Ev.step (fun q => by simp only [spec_GetCommit.j0, w3, w4, t1, t2, t3, hB, hG, if_pos i1, if_pos i2, if_pos i3, if_pos i4]; rfl) ?_
    exact Ev.neg (by simp) (Ev.pos (by omega) (Ev.pos (by omega) (Ev.pos (by omega) hr)))
   rcases num_step B hBb (by omega) 0 (by omega) with ⟨g0, _, z0⟩ | ⟨v0, p1, q0, l0, y0, r0, g0, _⟩
   ·obtain ⟨u1, x1, o1, s1, r1⟩ := text_any B hBb (by omega) 0 (by omega)
    obtain ⟨u2, x2, o2, s2, r2⟩ := texts_any B hBb (by omega) x1 (by omega)
    refine ⟨0, ⟨#[]⟩, [], (a : Int), false, start _ (Ev.bind g0 (Ev.bind s1 (Ev.bind s2 (Ev.neg (by simp) (Ev.now _))))), by simp, bad True fun a' N s' t' r ha hr hk c1 c2 c3 => ?_⟩
    obtain rfl : a = a' := by omega
    have hh := headOk_parts hk
    exact z0 N _ (show B.drop 0 = num N ++ (textB s' ++ textsB t') from (cutB N s' t' r hr).1) (by omega)
   ·rcases text_step B hBb (by omega) p1 (by omega) with ⟨g1, _, z1⟩ | ⟨v1, p2, q1, l1, y1, r1, g1, _⟩
    ·obtain ⟨u2, x2, o2, s2, r2⟩ := texts_any B hBb (by omega) 0 (by omega)
     refine ⟨0, ⟨#[]⟩, [], (a : Int), false, start _ (Ev.bind g0 (Ev.bind g1 (Ev.bind s2 (Ev.pos rfl (Ev.neg (by simp) (Ev.now _)))))), by simp, bad True fun a' N s' t' r ha hr hk c1 c2 c3 => ?_⟩
     obtain rfl : a = a' := by omega
     have hh := headOk_parts hk
     have d0 : B.drop 0 = num N ++ (textB s' ++ textsB t') := (cutB N s' t' r hr).1
     have d1 := (num_inj _ _ _ _ (y0.symm.trans d0)).2
     exact z1 s' _ d1 (by omega)
    ·rcases texts_step B hBb (by omega) p2 (by omega) with ⟨g2, _, z2⟩ | ⟨v2, p3, q2, s2, l2, y2, r2, g2, _⟩
     ·refine ⟨0, ⟨#[]⟩, [], (a : Int), false, start _ (Ev.bind g0 (Ev.bind g1 (Ev.bind g2 (Ev.pos rfl (Ev.pos rfl (Ev.neg (by simp) (Ev.now _))))))), by simp, bad True fun a' N s' t' r ha hr hk c1 c2 c3 => ?_⟩
      obtain rfl : a = a' := by omega
      have d0 : B.drop 0 = num N ++ (textB s' ++ textsB t') := (cutB N s' t' r hr).1
      have d1 := (num_inj _ _ _ _ (y0.symm.trans d0)).2
      have d2 := (textB_inj (y1.symm.trans d1)).2
      exact z2 t' [] (by rw [List.append_nil]; exact d2) c2 c3
     ·have hBB : B = bodyB v0 v1 v2 ++ B.drop p3 := by
       have e : B.drop 0 = num v0 ++ (textB v1 ++ (textsB v2 ++ B.drop p3)) := by rw [y0, y1, y2]
       unfold bodyB
       simp only [List.append_assoc]
       exact e
      have same : ∀ (N : Nat) (s' : ByteArray) (t' : List ByteArray) r, b.drop a = commitB N s' t' ++ r → v0 = N ∧ v1 = s' ∧ v2 = t' ∧ B.drop p3 = [] ∧ G = sumB B := fun N s' t' r hr => by
       obtain ⟨k1, k2⟩ := cutB N s' t' r hr
       obtain ⟨h1, h2, h3, h4⟩ := bodyB_inj (show bodyB v0 v1 v2 ++ B.drop p3 = bodyB N s' t' ++ [] by rw [List.append_nil, ← hBB, k1])
       exact ⟨h1, h2, h3, h4, by rw [k1]; exact k2⟩
      have hD := spec_Digest_ev B (by omega) hBb
      have hsz : (sha B).size = 32 := sha_size _
      by_cases hp3 : (p3 : Int) = (B.length : Int)
      ·have hnil : B.drop p3 = [] := List.drop_eq_nil_of_le (by omega)
       rw [hnil, List.append_nil] at hBB
       by_cases hk : headOk (v0 : Int) v1 = true
       ·by_cases hz : (v2.length : Int) = 0
        ·refine ⟨0, ⟨#[]⟩, [], (a : Int), false, start _ (Ev.bind g0 (Ev.bind g1 (Ev.bind g2 (Ev.pos rfl (Ev.pos rfl (Ev.pos rfl (Ev.pos hp3 (Ev.bind (Ev.const (spec_HeadOk_eq _ _)) (Ev.pos hk (Ev.pos hz (Ev.now _))))))))))), by simp, bad True fun a' N s' t' r ha hr hk2 c1 c2 c3 => ?_⟩
         obtain rfl : a = a' := by omega
         obtain ⟨_, _, rfl, _⟩ := same N s' t' r hr
         omega
        ·by_cases hsum : (strOfNums G).toList = ((sha B).extract 0 4).toList
         ·have hGs := (sum_iff hGb B).1 hsum
          have hlen : (commitB v0 v1 v2).length = (num m).length + m + 4 := by rw [commitB_length, ← hBB, hBl]
          refine ⟨(v0 : Int), v1, v2, ((p + m + 4 : Nat) : Int), true, start _ (Ev.bind g0 (Ev.bind g1 (Ev.bind g2 (Ev.pos rfl (Ev.pos rfl (Ev.pos rfl (Ev.pos hp3 (Ev.bind (Ev.const (spec_HeadOk_eq _ _)) (Ev.pos hk (Ev.neg hz (Ev.bind hD (Ev.pos (by omega) (Ev.pos hsum (Ev.now _)))))))))))))), q2, fun _ => ⟨a, v0, rfl, rfl, hk, by omega, ?_, ?_, ?_⟩, fun h => (by cases h)⟩
          ·rw [hlen, show a + ((num m).length + m + 4) = p + m + 4 by omega, hd, hBG, hGs]
           unfold commitB
           rw [← hBB, hBl]
           simp only [List.append_assoc]
          ·rw [hlen]
           congr 1
           omega
          ·rw [hlen]
           omega
         ·refine ⟨0, ⟨#[]⟩, [], (a : Int), false, start _ (Ev.bind g0 (Ev.bind g1 (Ev.bind g2 (Ev.pos rfl (Ev.pos rfl (Ev.pos rfl (Ev.pos hp3 (Ev.bind (Ev.const (spec_HeadOk_eq _ _)) (Ev.pos hk (Ev.neg hz (Ev.bind hD (Ev.pos (by omega) (Ev.neg hsum (Ev.now _)))))))))))))), by simp, bad True fun a' N s' t' r ha hr hk2 c1 c2 c3 => ?_⟩
          obtain rfl : a = a' := by omega
          obtain ⟨_, _, _, _, h5⟩ := same N s' t' r hr
          exact hsum ((sum_iff hGb B).2 h5)
       ·refine ⟨0, ⟨#[]⟩, [], (a : Int), false, start _ (Ev.bind g0 (Ev.bind g1 (Ev.bind g2 (Ev.pos rfl (Ev.pos rfl (Ev.pos rfl (Ev.pos hp3 (Ev.bind (Ev.const (spec_HeadOk_eq _ _)) (Ev.neg hk (Ev.now _)))))))))), by simp, bad True fun a' N s' t' r ha hr hk2 c1 c2 c3 => ?_⟩
        obtain rfl : a = a' := by omega
        obtain ⟨rfl, rfl, _⟩ := same N s' t' r hr
        exact hk hk2
      ·refine ⟨0, ⟨#[]⟩, [], (a : Int), false, start _ (Ev.bind g0 (Ev.bind g1 (Ev.bind g2 (Ev.pos rfl (Ev.pos rfl (Ev.pos rfl (Ev.neg hp3 (Ev.now _)))))))), by simp, bad True fun a' N s' t' r ha hr hk2 c1 c2 c3 => ?_⟩
       obtain rfl : a = a' := by omega
       obtain ⟨_, _, _, h4, _⟩ := same N s' t' r hr
       have := congrArg List.length h4
       rw [List.length_drop] at this
       simp only [List.length_nil] at this
       omega
theorem commit_small {b : List Int} {a N : Nat} {s : ByteArray} {t : List ByteArray} {r : List Int} (hl : b.length ≤ 10000000) (h : b.drop a = commitB N s t ++ r) : ∀ x ∈ t, x.size ≤ 1000000000 := fun x hx => by
 have h1 := congrArg List.length h
 rw [List.length_drop, List.length_append, commitB_length] at h1
 have h2 := bodyB_ge N s t
 have h3 := total_mem hx
 omega
theorem getCommit_both (b : List Int) (hb : InB b) (hl : b.length ≤ 10000000) (at_ : Int) (h0 : -9223372036854775808 ≤ at_) (h1 : at_ ≤ 9223372036854775807) :
  ∃ n s t nx ok, Ev (fun q => spec_GetCommit.f q b at_) (n, s, t, nx, ok) ∧ Ev (fun q => impl_GetCommit.f q b at_) (n, s, t, nx, ok) ∧ t.length ≤ 200 := by
 obtain ⟨n, s, t, nx, ok, e1, ht, c1, c2⟩ := getCommitI b hb hl at_ h0 h1
 obtain ⟨n', s', t', nx', ok', e2, ht', d1, d2⟩ := getCommitS b hb hl at_ h0 h1
 cases ok with
 | true =>
  obtain ⟨a, N, rfl, rfl, hk, hz, hd, rfl, hle⟩ := c1 rfl
  cases ok' with
  | true =>
   obtain ⟨a', N', ha, rfl, hk', hz', hd', rfl, hle'⟩ := d1 rfl
   obtain rfl : a = a' := by omega
   obtain ⟨rfl, rfl, rfl, _⟩ := commitB_inj (hd.symm.trans hd')
   exact ⟨_, _, _, _, _, e2, e1, ht⟩
  | false => exact absurd ((d2 rfl).2.2.2.2 a N s t _ rfl hd hk hz ht (commit_small hl hd)) id
 | false =>
  obtain ⟨rfl, rfl, rfl, rfl, c3⟩ := c2 rfl
  cases ok' with
  | true =>
   obtain ⟨a', N', rfl, rfl, hk', hz', hd', rfl, hle'⟩ := d1 rfl
   exact absurd (c3 a' N' s' t' _ rfl hd' hk' hz' ht' (commit_small hl hd')) id
  | false =>
   obtain ⟨rfl, rfl, rfl, rfl, _⟩ := d2 rfl
   exact ⟨_, _, _, _, _, e2, e1, ht⟩
def bigB : Nat := 1048608
theorem node_small {a b : ByteArray} (ha : a.size ≤ bigB) (hb : b.size ≤ bigB) : a.size + b.size ≤ 1099511627775 := by unfold bigB at *; omega
theorem mem_take_of {l : List ByteArray} {n : Nat} (h : ∀ x ∈ l, x.size ≤ bigB) : ∀ x ∈ l.take n, x.size ≤ bigB := fun x hx => h x (List.mem_of_mem_take hx)
theorem mem_drop_of {l : List ByteArray} {n : Nat} (h : ∀ x ∈ l, x.size ≤ bigB) : ∀ x ∈ l.drop n, x.size ≤ bigB := fun x hx => h x (List.mem_of_mem_drop hx)
theorem leafs_small (l : List ByteArray) : ∀ x ∈ l, (leafH x).size ≤ bigB := fun x _ => by rw [leafH_size]; decide
theorem root_small (l : List ByteArray) : (rootBy leafH l).size ≤ bigB := rootBy_size leafH bigB (by decide) _ (leafs_small l)
theorem root_32 (l : List ByteArray) : (rootBy leafH l).size = 32 := by
 by_cases h : 2 ≤ l.length
 ·rw [rootBy_more leafH h]
  exact nodeH_size _ _
 ·by_cases h0 : l.length = 0
  ·rw [List.eq_nil_of_length_eq_zero h0, rootBy_nil]
   exact sha_size _
  ·obtain ⟨a, rfl⟩ := list_one (l := l) (by omega)
   rw [rootBy_one]
   exact leafH_size _
theorem rooted_impl : ∀ (n : Nat) (l : List ByteArray), l.length ≤ n → l.length ≤ 4611686018427387904 → (∀ x ∈ l, x.size ≤ bigB) → Ev (fun k => impl_rootOf.f k l) (rootBy leafH l) := by
 intro n
 induction n with
 | zero =>
  intro l h1 h2 hs
  obtain rfl := List.eq_nil_of_length_eq_zero (show l.length = 0 by omega)
  rw [rootBy_nil]
  refine Ev.step (fun k => by simp only [impl_rootOf.f]; rfl) ?_
  exact Ev.pos rfl (Ev.bind (Ev.const (impl_Digest_is [] (by decide))) (Ev.now _))
 | succ n ih =>
  intro l h1 h3 hs
  by_cases h : 2 ≤ l.length
  ·obtain ⟨p1, p2, p3, p4⟩ := cut_parts l h
   have hh := half_lt h
   have e1 := ih (l.take (half l.length)) (by omega) (by omega) (mem_take_of hs)
   have e2 := ih (l.drop (half l.length)) (by omega) (by omega) (mem_drop_of hs)
   have e3 := impl_node _ _ (node_small (root_small (l.take (half l.length))) (root_small (l.drop (half l.length))))
   rw [rootBy_more leafH h]
   refine Ev.step (fun k => by simp only [impl_rootOf.f]; rfl) ?_
   refine Ev.neg (by omega) (Ev.neg (by omega) (Ev.bind (impl_half_ev l.length h h3) ?_))
   exact Ev.pos (by omega) (Ev.pos (by omega) (Ev.bind e1 (Ev.bind e2 (Ev.bind (Ev.const e3) (Ev.now _)))))
  ·match l, h with
   | [], _ =>
    rw [rootBy_nil]
    refine Ev.step (fun k => by simp only [impl_rootOf.f]; rfl) ?_
    exact Ev.pos rfl (Ev.bind (Ev.const (impl_Digest_is [] (by decide))) (Ev.now _))
   | [a], _ =>
    rw [rootBy_one]
    have ha := hs a (by simp)
    refine Ev.step (fun k => by simp only [impl_rootOf.f]; rfl) ?_
    refine Ev.neg (by simp) (Ev.pos rfl (Ev.pos (by simp) ?_))
    exact Ev.bind (Ev.const (impl_leaf a (by unfold bigB at ha; omega))) (Ev.now _)
   | _ :: _ :: _, h => simp at h
theorem rooted_spec : ∀ (n : Nat) (l : List ByteArray), l.length ≤ n → l.length ≤ 4611686018427387904 → (∀ x ∈ l, x.size ≤ bigB) → Ev (fun k => spec_l6Root.f k l) (rootBy leafH l) := by
 intro n
 induction n with
 | zero =>
  intro l h1 h2 hs
  obtain rfl := List.eq_nil_of_length_eq_zero (show l.length = 0 by omega)
  rw [rootBy_nil]
  refine Ev.step (fun k => by simp only [spec_l6Root.f]; rfl) ?_
  exact Ev.pos rfl (Ev.bind (spec_Digest_ev [] (by decide) (by simp)) (Ev.now _))
 | succ n ih =>
  intro l h1 h3 hs
  by_cases h : 2 ≤ l.length
  ·obtain ⟨p1, p2, p3, p4⟩ := cut_parts l h
   have hh := half_lt h
   have e1 := ih (l.take (half l.length)) (by omega) (by omega) (mem_take_of hs)
   have e2 := ih (l.drop (half l.length)) (by omega) (by omega) (mem_drop_of hs)
   have e3 := spec_node _ _ (node_small (root_small (l.take (half l.length))) (root_small (l.drop (half l.length))))
   rw [rootBy_more leafH h]
   refine Ev.step (fun k => by simp only [spec_l6Root.f]; rfl) ?_
   refine Ev.neg (by omega) (Ev.neg (by omega) (Ev.bind (spec_half l.length h h3) ?_))
   exact Ev.pos (by omega) (Ev.pos (by omega) (Ev.bind e1 (Ev.bind e2 (Ev.bind e3 (Ev.now _)))))
  ·match l, h with
   | [], _ =>
    rw [rootBy_nil]
    refine Ev.step (fun k => by simp only [spec_l6Root.f]; rfl) ?_
    exact Ev.pos rfl (Ev.bind (spec_Digest_ev [] (by decide) (by simp)) (Ev.now _))
   | [a], _ =>
    rw [rootBy_one]
    have ha := hs a (by simp)
    refine Ev.step (fun k => by simp only [spec_l6Root.f]; rfl) ?_
    refine Ev.neg (by simp) (Ev.pos rfl (Ev.pos (by simp) ?_))
    exact Ev.bind (spec_leaf a (by unfold bigB at ha; omega)) (Ev.now _)
   | _ :: _ :: _, h => simp at h
def headOf (l : List ByteArray) : Int × ByteArray := if (l.length : Int) > 200 then (0, ⟨#[]⟩) else ((l.length : Int), rootBy leafH l)
theorem headOf_few {l : List ByteArray} (h : l.length ≤ 200) : headOf l = ((l.length : Int), rootBy leafH l) := if_neg (by omega)
theorem headOf_many {l : List ByteArray} (h : ¬ l.length ≤ 200) : headOf l = (0, ⟨#[]⟩) := if_pos (by omega)
theorem spec_HeadOf_ev (l : List ByteArray) (hs : ∀ x ∈ l, x.size ≤ bigB) : Ev (fun k => spec_HeadOf.f k l) (headOf l) := by
 unfold spec_HeadOf.f
 by_cases h : l.length ≤ 200
 ·rw [headOf_few h]
  exact Ev.neg (by omega) (Ev.bind (rooted_spec l.length l (Nat.le_refl _) (by omega) hs) (Ev.now _))
 ·rw [headOf_many h]
  exact Ev.pos (by omega) (Ev.now _)
theorem impl_HeadOf_ev (l : List ByteArray) (hs : ∀ x ∈ l, x.size ≤ bigB) : Ev (fun k => impl_HeadOf.f k l) (headOf l) := by
 unfold impl_HeadOf.f
 by_cases h : l.length ≤ 200
 ·rw [headOf_few h]
  exact Ev.neg (by omega) (Ev.bind (rooted_impl l.length l (Nat.le_refl _) (by omega) hs) (Ev.now _))
 ·rw [headOf_many h]
  exact Ev.pos (by omega) (Ev.now _)
def logOk (l : List ByteArray) (n : Int) (s : ByteArray) : Bool := if (l.length : Int) ≤ 200 then (n == (headOf l).1 && (s.toList == (headOf l).2.toList)) else false
theorem spec_LogOk_ev (l : List ByteArray) (n : Int) (s : ByteArray) (hs : ∀ x ∈ l, x.size ≤ bigB) : Ev (fun k => spec_LogOk.f k l n s) (logOk l n s) := by
 unfold spec_LogOk.f logOk
 by_cases h : (l.length : Int) ≤ 200
 ·rw [if_pos h]
  exact Ev.pos h (Ev.bind (spec_HeadOf_ev l hs) (Ev.now _))
 ·rw [if_neg h]
  exact Ev.neg h (Ev.now _)
theorem impl_LogOk_ev (l : List ByteArray) (n : Int) (s : ByteArray) (hs : ∀ x ∈ l, x.size ≤ bigB) : Ev (fun k => impl_LogOk.f k l n s) (logOk l n s) := by
 unfold impl_LogOk.f logOk
 by_cases h : (l.length : Int) ≤ 200
 ·rw [if_pos h]
  exact Ev.pos h (Ev.bind (impl_HeadOf_ev l hs) (Ev.now _))
 ·rw [if_neg h]
  exact Ev.neg h (Ev.now _)
theorem log_new : Ev (fun k => spec_LogNew.f k) (([] : List ByteArray), (headOf []).1, (headOf []).2) := by
 unfold spec_LogNew.f
 exact Ev.bind (spec_HeadOf_ev [] (by simp)) (Ev.now _)
theorem ev_uniq {α : Type} {g : Nat → Option α} {r q : α} (h : Ev g r) (k : Ev g q) : r = q := by
 obtain ⟨K, h⟩ := h
 obtain ⟨M, k⟩ := k
 exact Option.some.inj ((h (max K M) (Nat.le_max_left _ _)).symm.trans (k (max K M) (Nat.le_max_right _ _)))
theorem getCommit_step (b : List Int) (hb : InB b) (hl : b.length ≤ 1048576) (a : Nat) (ha : a ≤ b.length) :
  ∃ n s t nx ok, Ev (fun q => spec_GetCommit.f q b (a : Int)) (n, s, t, nx, ok) ∧ Ev (fun q => impl_GetCommit.f q b (a : Int)) (n, s, t, nx, ok) ∧ t.length ≤ 200 ∧ (∀ x ∈ t, x.size ≤ bigB) ∧
   (ok = true → ∃ c : Nat, nx = (c : Int) ∧ a < c ∧ c ≤ b.length) ∧ (ok = false → t = []) := by
 obtain ⟨n, s, t, nx, ok, e1, ht, c1, c2⟩ := getCommitI b hb (by omega) (a : Int) (by omega) (by omega)
 obtain ⟨n', s', t', nx', ok', e2, e3, _⟩ := getCommit_both b hb (by omega) (a : Int) (by omega) (by omega)
 have h := ev_uniq e3 e1
 simp only [Prod.mk.injEq] at h
 obtain ⟨rfl, rfl, rfl, rfl, rfl⟩ := h
 refine ⟨_, _, _, _, _, e2, e1, ht, ?_, ?_, ?_⟩
 ·cases hok : ok' with
  | true =>
   obtain ⟨a', N, h1, rfl, _, _, hd, _, hle⟩ := c1 hok
   intro x hx
   have h2 := commitB_length N s' t'
   have h3 := bodyB_ge N s' t'
   have h4 := total_mem hx
   unfold bigB
   omega
  | false =>
   obtain ⟨_, _, rfl, _⟩ := c2 hok
   intro x hx
   cases hx
 ·intro hok
  obtain ⟨a', N, h1, rfl, _, _, hd, h2, hle⟩ := c1 hok
  have h3 := commitB_length N s' t'
  exact ⟨_, h2, by omega, hle⟩
 ·intro hok
  exact (c2 hok).2.2.1
theorem sizes_app {l t : List ByteArray} (h : ∀ x ∈ l, x.size ≤ bigB) (k : ∀ x ∈ t, x.size ≤ bigB) : ∀ x ∈ l ++ t, x.size ≤ bigB := fun x hx => (List.mem_append.1 hx).elim (h x) (k x)
theorem impl_many (b : List Int) (hb : InB b) (hl : b.length ≤ 1048576) (L : List ByteArray) (hL : L.length ≤ 200) (N : Int) (S : ByteArray) (U : Int) : ∀ (m a : Nat) (T : List ByteArray), b.length - a ≤ m → a ≤ b.length → 200 < T.length → T.length + 200 * (b.length - a) ≤ 1000000000 → (∀ x ∈ T, x.size ≤ bigB) →
  Ev (fun k => impl_StoreOk.l0 k T (a : Int) L N S b U) false := by
 intro m
 induction m with
 | zero =>
  intro a T h1 h2 h3 h4 h5
  refine Ev.step (fun k => by simp only [impl_StoreOk.l0]; rfl) ?_
  refine Ev.neg (by omega) (Ev.bind (impl_same_ev T L (by omega)) ?_)
  rw [decide_eq_false (fun e => by rw [e] at h3; omega)]
  exact Ev.now _
 | succ m ih =>
  intro a T h1 h2 h3 h4 h5
  refine Ev.step (fun k => by simp only [impl_StoreOk.l0]; rfl) ?_
  by_cases ha : (a : Int) < (b.length : Int)
  ·obtain ⟨n, s, t, nx, ok, e1, e2, ht, hs, c1, c2⟩ := getCommit_step b hb hl a h2
   refine Ev.pos ha (Ev.bind e2 ?_)
   simp only
   refine Ev.pos (by omega) ?_
   simp only [Option.bind_some]
   cases ok with
   | false => exact Ev.neg (by simp) (Ev.now _)
   | true =>
    obtain ⟨c, rfl, h6, h7⟩ := c1 rfl
    refine Ev.pos rfl (Ev.bind (impl_HeadOf_ev (T ++ t) (sizes_app h5 hs)) ?_)
    by_cases hh : (!(n == (headOf (T ++ t)).1) || (!(s.toList == (headOf (T ++ t)).2.toList))) = true
    ·exact Ev.pos hh (Ev.now _)
    ·refine Ev.neg hh (ih c (T ++ t) (by omega) h7 (by rw [List.length_append]; omega) (by rw [List.length_append]; omega) (sizes_app h5 hs))
  ·refine Ev.neg ha (Ev.bind (impl_same_ev T L (by omega)) ?_)
   rw [decide_eq_false (fun e => by rw [e] at h3; omega)]
   exact Ev.now _
theorem replay_both (b : List Int) (hb : InB b) (hl : b.length ≤ 1048576) (L : List ByteArray) (hL : L.length ≤ 200) (N : Int) (S : ByteArray) (U : Int) : ∀ (m a : Nat) (T : List ByteArray) (n : Int) (s : ByteArray), b.length - a ≤ m → a ≤ b.length → T.length ≤ 200 → (∀ x ∈ T, x.size ≤ bigB) →
  ∃ T' n' s' ok, Ev (fun k => spec_l12Replay.l0 k b (a : Int) T n s) (T', n', s', ok) ∧ T'.length ≤ 200 ∧ (∀ x ∈ T', x.size ≤ bigB) ∧ Ev (fun k => impl_StoreOk.l0 k T (a : Int) L N S b U) (if ok = true then decide (T' = L) else false) := by
 intro m
 induction m with
 | zero =>
  intro a T n s h1 h2 h3 h5
  refine ⟨T, n, s, true, ?_, h3, h5, ?_⟩
  ·refine Ev.step (fun k => by simp only [spec_l12Replay.l0]; rfl) ?_
   exact Ev.neg (by omega) (Ev.now _)
  ·refine Ev.step (fun k => by simp only [impl_StoreOk.l0]; rfl) ?_
   exact Ev.neg (by omega) (Ev.bind (impl_same_ev T L (by omega)) (Ev.now _))
 | succ m ih =>
  intro a T n s h1 h2 h3 h5
  by_cases ha : (a : Int) < (b.length : Int)
  ·obtain ⟨n1, s1, t, nx, ok, e1, e2, ht, hs, c1, c2⟩ := getCommit_step b hb hl a h2
   cases ok with
   | false =>
    refine ⟨T, n, s, false, ?_, h3, h5, ?_⟩
    ·refine Ev.step (fun k => by simp only [spec_l12Replay.l0]; rfl) ?_
     refine Ev.pos ha (Ev.bind e1 (Ev.neg (by simp) ?_))
     refine Ev.step (fun k => by simp only [spec_l12Replay.j1]; rfl) ?_
     exact Ev.pos trivial (Ev.now _)
    ·refine Ev.step (fun k => by simp only [impl_StoreOk.l0]; rfl) ?_
     refine Ev.pos ha (Ev.bind e2 (Ev.pos (by simp only; omega) ?_))
     simp only [Option.bind_some]
     exact Ev.neg (by simp) (Ev.now _)
   | true =>
    obtain ⟨c, rfl, h6, h7⟩ := c1 rfl
    have hw : wrap64 ((T.length : Int) + (t.length : Int)) = ((T.length + t.length : Nat) : Int) := by
     rw [w64 (by omega) (by omega)]
     omega
    have hsz := sizes_app h5 hs
    have hI : ∀ r, Ev (fun k => if (!(n1 == (headOf (T ++ t)).1) || (!(s1.toList == (headOf (T ++ t)).2.toList))) = true then some false else impl_StoreOk.l0 k (T ++ t) (c : Int) L N S b U) r → Ev (fun k => impl_StoreOk.l0 k T (a : Int) L N S b U) r := by
     intro r hr
     refine Ev.step (fun k => by simp only [impl_StoreOk.l0]; rfl) ?_
     refine Ev.pos ha (Ev.bind e2 (Ev.pos (by simp only; omega) ?_))
     simp only [Option.bind_some]
     exact Ev.pos trivial (Ev.bind (impl_HeadOf_ev (T ++ t) hsz) hr)
    by_cases hm : T.length + t.length ≤ 200
    ·have hS : ∀ r, Ev (fun k => if (!(n1 == (headOf (T ++ t)).1) || (!(s1.toList == (headOf (T ++ t)).2.toList))) = true then some (T ++ t, n1, s1, false) else spec_l12Replay.l0 k b (c : Int) (T ++ t) n1 s1) r → Ev (fun k => spec_l12Replay.l0 k b (a : Int) T n s) r := by
      intro r hr
      refine Ev.step (fun k => by simp only [spec_l12Replay.l0]; rfl) ?_
      refine Ev.pos ha (Ev.bind e1 (Ev.pos rfl ?_))
      simp only [hw]
      rw [decide_eq_false (by omega)]
      refine Ev.step (fun k => by simp only [spec_l12Replay.j1]; rfl) ?_
      refine Ev.neg (by simp) (Ev.pos (by omega) ?_)
      simp only [Option.bind_some]
      exact Ev.bind (spec_HeadOf_ev (T ++ t) hsz) hr
     have hlen : (T ++ t).length ≤ 200 := by rw [List.length_append]; exact hm
     by_cases hh : (!(n1 == (headOf (T ++ t)).1) || (!(s1.toList == (headOf (T ++ t)).2.toList))) = true
     ·exact ⟨_, _, _, false, hS _ (Ev.pos hh (Ev.now _)), hlen, hsz, hI _ (Ev.pos hh (Ev.now _))⟩
     ·obtain ⟨T', n', s', ok, f1, f2, f3, f4⟩ := ih c (T ++ t) n1 s1 (by omega) h7 hlen hsz
      exact ⟨T', n', s', ok, hS _ (Ev.neg hh f1), f2, f3, hI _ (Ev.neg hh f4)⟩
    ·refine ⟨T, n, s, false, ?_, h3, h5, ?_⟩
     ·refine Ev.step (fun k => by simp only [spec_l12Replay.l0]; rfl) ?_
      refine Ev.pos ha (Ev.bind e1 (Ev.pos rfl ?_))
      simp only [hw]
      rw [decide_eq_true (by omega)]
      refine Ev.step (fun k => by simp only [spec_l12Replay.j1]; rfl) ?_
      exact Ev.pos trivial (Ev.now _)
     ·refine hI _ ?_
      by_cases hh : (!(n1 == (headOf (T ++ t)).1) || (!(s1.toList == (headOf (T ++ t)).2.toList))) = true
      ·exact Ev.pos hh (Ev.now _)
      ·exact Ev.neg hh (impl_many b hb hl L hL N S U (b.length - c) c (T ++ t) (Nat.le_refl _) h7 (by rw [List.length_append]; omega) (by rw [List.length_append]; omega) hsz)
  ·refine ⟨T, n, s, true, ?_, h3, h5, ?_⟩
   ·refine Ev.step (fun k => by simp only [spec_l12Replay.l0]; rfl) ?_
    exact Ev.neg ha (Ev.now _)
   ·refine Ev.step (fun k => by simp only [impl_StoreOk.l0]; rfl) ?_
    exact Ev.neg ha (Ev.bind (impl_same_ev T L (by omega)) (Ev.now _))
theorem storeOk_both (l : List ByteArray) (n : Int) (s : ByteArray) (b : List Int) (u : Int) (hb : InB b) (hl : b.length ≤ 1048576) (hs : ∀ x ∈ l, x.size ≤ bigB) :
  ∃ r, Ev (fun k => spec_StoreOk.f k l n s b u) r ∧ Ev (fun k => impl_StoreOk.f k l n s b u) r := by
 have jS : Ev (fun k => spec_StoreOk.j0 k true l n s b u) false := by
  refine Ev.step (fun k => by simp only [spec_StoreOk.j0]; rfl) ?_
  exact Ev.pos trivial (Ev.now _)
 have jI : Ev (fun k => impl_StoreOk.j0 k true l n s b u) false := by
  refine Ev.step (fun k => by simp only [impl_StoreOk.j0]; rfl) ?_
  exact Ev.pos trivial (Ev.now _)
 have lS := spec_LogOk_ev l n s hs
 have lI := impl_LogOk_ev l n s hs
 unfold spec_StoreOk.f impl_StoreOk.f
 by_cases h1 : logOk l n s = true
 ·by_cases h2 : (b.length : Int) > 60000
  ·exact ⟨false, Ev.bind lS (Ev.pos h1 (Ev.pos h2 jS)), Ev.bind lI (Ev.pos h1 (Ev.pos h2 jI))⟩
  ·have hlen : l.length ≤ 200 := by
    unfold logOk at h1
    by_cases h : (l.length : Int) ≤ 200
    ·omega
    ·rw [if_neg h] at h1
     cases h1
   have iS : spec_l1In.f u 0 (b.length : Int) = some (decide (0 ≤ u) && decide (u ≤ (b.length : Int))) := by
    unfold spec_l1In.f
    by_cases h : u ≥ 0
    ·rw [if_pos h, decide_eq_true h]
     rfl
    ·rw [if_neg h, decide_eq_false h]
     rfl
   have iI : impl_inRange.f u 0 (b.length : Int) = some (decide (0 ≤ u) && decide (u ≤ (b.length : Int))) := by
    unfold impl_inRange.f
    by_cases h : u ≥ 0
    ·rw [if_pos h, decide_eq_true h]
     rfl
    ·rw [if_neg h, decide_eq_false h]
     rfl
   have fin : ∀ q : Bool, ∃ r, Ev (fun k => spec_StoreOk.j0 k (!q) l n s b u) r ∧ Ev (fun k => impl_StoreOk.j0 k (!q) l n s b u) r := by
    intro q
    cases q with
    | false => exact ⟨false, jS, jI⟩
    | true =>
     obtain ⟨T', n', s', ok, f1, f2, f3, f4⟩ := replay_both b hb hl l hlen n s u b.length 0 [] (headOf []).1 (headOf []).2 (by omega) (by omega) (by simp) (by simp)
     have fI : Ev (fun k => impl_StoreOk.j0 k (!true) l n s b u) (if ok = true then decide (T' = l) else false) := by
      refine Ev.step (fun k => by simp only [impl_StoreOk.j0]; rfl) ?_
      exact Ev.neg (by simp) f4
     have rS : Ev (fun k => spec_l12Replay.f k b) (T', n', s', ok) := by
      unfold spec_l12Replay.f
      exact Ev.bind log_new f1
     refine ⟨_, ?_, fI⟩
     refine Ev.step (fun k => by simp only [spec_StoreOk.j0]; rfl) ?_
     refine Ev.neg (by simp) (Ev.bind rS ?_)
     cases ok with
     | true => exact Ev.pos rfl (Ev.bind (spec_same_ev T' l (by omega)) (Ev.now _))
     | false => exact Ev.neg (by simp) (Ev.now _)
   obtain ⟨r, r1, r2⟩ := fin (decide (0 ≤ u) && decide (u ≤ (b.length : Int)))
   exact ⟨r, Ev.bind lS (Ev.pos h1 (Ev.neg h2 (Ev.bind (Ev.const iS) r1))), Ev.bind lI (Ev.pos h1 (Ev.neg h2 (Ev.bind (Ev.const iI) r2)))⟩
 ·exact ⟨false, Ev.bind lS (Ev.neg h1 jS), Ev.bind lI (Ev.neg h1 jI)⟩
theorem l12Put_val (n : Nat) (s : ByteArray) (t : List ByteArray) (hn : n ≤ 200) (hs : s.size ≤ 1000) (ht : t.length ≤ 1000000) (htt : total t ≤ 100000000) (hx : ∀ x ∈ t, x.size ≤ 1000000000) : Ev (fun q => spec_l12Put.f q (n : Int) s t) (commitB n s t) := by
 have ht0 := total_nonneg t
 have a2 := (putNum_val [] n (by omega) (by simp)).1
 have h5 := num_five (show n ≤ 1000000000 by omega)
 have hs5 := num_five (show s.size ≤ 1000000000 by omega)
 have b2 := (putText_val ([] ++ num n) s (by omega) (by simp; omega)).1
 have c2 := (putTexts_val ([] ++ num n ++ textB s) t (by rw [List.length_append, textB_length]; simp; omega) (by omega) hx).1
 have eb : [] ++ num n ++ textB s ++ textsB t = bodyB n s t := by
  unfold bodyB
  simp
 rw [eb] at c2
 have hm := manyB_length t hx
 have ht5 := num_five (show t.length ≤ 1000000000 by omega)
 have hbl : (bodyB n s t).length ≤ 1000000000 := by
  unfold bodyB textsB
  rw [List.length_append, List.length_append, List.length_append, textB_length]
  omega
 have h4 : ((sha (bodyB n s t)).extract 0 4).size = 4 := by
  rw [ByteArray.size_extract, sha_size]
  rfl
 have h32 : (sha (bodyB n s t)).size = 32 := sha_size _
 have d2 := (putNum_val [] (bodyB n s t).length hbl (by simp)).1
 have hd5 := num_five hbl
 rw [List.nil_append] at d2
 unfold spec_l12Put.f commitB sumB
 refine Ev.bind a2 (Ev.bind b2 (Ev.bind c2 (Ev.bind d2 (Ev.pos (by omega) (Ev.bind (Ev.now _) (Ev.bind (spec_Digest_ev (bodyB n s t) (by omega) (bodyB_inB n s t)) ?_))))))
 rw [← List.append_assoc]
 exact Ev.pos (by omega) (Ev.pos (by omega) (Ev.pos (by rw [List.length_append, h4]; omega) (Ev.now _)))
def isHead (l : List ByteArray) (a : Int) (z : ByteArray) : Bool := a == (headOf l).1 && (z.toList == (headOf l).2.toList)
def extOf (t : List IHead) (l : List ByteArray) (n : Int) (s : ByteArray) (a : Int) (z : ByteArray) (x : List ByteArray) : List ByteArray × Int × ByteArray × Int :=
 if (headOk a z && (a == ((l.length + x.length : Nat) : Int))) = true then
  (if hasHead t a z = true then (if x.length = 0 then (l, n, s, 3) else (if isHead (l ++ x) a z = true then (l ++ x, a, z, 0) else (l, n, s, 4))) else (l, n, s, 2))
 else (l, n, s, 1)
def extendOf (t : List IHead) (l : List ByteArray) (n : Int) (s : ByteArray) (a : Int) (z : ByteArray) (x : List ByteArray) : List ByteArray × Int × ByteArray × Int :=
 if logOk l n s = true then extOf t l n s a z x else (l, n, s, 1)
theorem ne_head (a b : Int) (u v : List UInt8) : (!(a == b) || !(u == v)) = !(a == b && (u == v)) := by simp
theorem head_sym (a b : Int) (u v : List UInt8) : (a == b && (u == v)) = (b == a && (v == u)) := by rw [Bool.beq_comm (a := a), Bool.beq_comm (a := u)]
theorem extend_j0S (t : List IHead) (l : List ByteArray) (n : Int) (s : ByteArray) (a : Int) (z : ByteArray) (x : List ByteArray) (ht : t.length ≤ 9223372036854775807) (hs : ∀ y ∈ l ++ x, y.size ≤ bigB) (hf : Bool) :
  Ev (fun k => spec_Extend.j0 k t x (l ++ x) hf a z l n s) (if hf = true then (l, n, s, 1) else (if hasHead t a z = true then (if x.length = 0 then (l, n, s, 3) else (if isHead (l ++ x) a z = true then (l ++ x, a, z, 0) else (l, n, s, 4))) else (l, n, s, 2))) := by
 refine Ev.step (fun k => by simp only [spec_Extend.j0]; rfl) ?_
 cases hf with
 | true => exact Ev.pos rfl (Ev.now _)
 | false =>
  refine Ev.neg (by simp) (Ev.bind (spec_IsSigned_ev t a z ht) ?_)
  rw [if_neg (by simp)]
  by_cases h1 : hasHead t a z = true
  ·rw [if_pos h1]
   refine Ev.pos h1 ?_
   by_cases h2 : x.length = 0
   ·rw [if_pos h2]
    exact Ev.pos (by omega) (Ev.now _)
   ·rw [if_neg h2]
    refine Ev.neg (by omega) (Ev.bind (spec_HeadOf_ev (l ++ x) hs) ?_)
    rw [ne_head]
    by_cases h3 : isHead (l ++ x) a z = true
    ·rw [if_pos h3]
     exact Ev.neg (by unfold isHead at h3; rw [h3]; simp) (Ev.now _)
    ·rw [if_neg h3]
     exact Ev.pos (by unfold isHead at h3; rw [Bool.eq_false_iff.mpr h3]; rfl) (Ev.now _)
  ·rw [if_neg h1]
   exact Ev.neg h1 (Ev.now _)
theorem extend_j0I (t : List IHead) (l : List ByteArray) (n : Int) (s : ByteArray) (a : Int) (z : ByteArray) (x : List ByteArray) (ht : t.length ≤ 9223372036854775807) (hs : ∀ y ∈ l ++ x, y.size ≤ bigB) (hl : l.length + x.length ≤ 1000000000) (hf : Bool) :
  Ev (fun k => impl_extend.j0 k t x hf l n s a z) (if hf = true then (l, n, s, 1) else (if hasHead t a z = true then (if x.length = 0 then (l, n, s, 3) else (if isHead (l ++ x) a z = true then (l ++ x, a, z, 0) else (l, n, s, 4))) else (l, n, s, 2))) := by
 have hc := impl_copyLog_eq l n s (by omega)
 refine Ev.step (fun k => by simp only [impl_extend.j0]; rfl) ?_
 cases hf with
 | true => exact Ev.pos rfl (Ev.bind (Ev.const hc) (Ev.now _))
 | false =>
  refine Ev.neg (by simp) (Ev.bind (impl_IsSigned_ev t a z ht) ?_)
  rw [if_neg (by simp)]
  by_cases h1 : hasHead t a z = true
  ·rw [if_pos h1]
   refine Ev.pos h1 ?_
   by_cases h2 : x.length = 0
   ·rw [if_pos h2]
    exact Ev.pos (by omega) (Ev.bind (Ev.const hc) (Ev.now _))
   ·rw [if_neg h2]
    refine Ev.neg (by omega) (Ev.bind (concat_ev l x hl (by omega)) (Ev.bind (impl_HeadOf_ev (l ++ x) hs) ?_))
    rw [ne_head, head_sym]
    by_cases h3 : isHead (l ++ x) a z = true
    ·rw [if_pos h3]
     exact Ev.neg (by unfold isHead at h3; rw [h3]; simp) (Ev.now _)
    ·rw [if_neg h3]
     exact Ev.pos (by unfold isHead at h3; rw [Bool.eq_false_iff.mpr h3]; rfl) (Ev.bind (Ev.const hc) (Ev.now _))
  ·rw [if_neg h1]
   exact Ev.neg h1 (Ev.bind (Ev.const hc) (Ev.now _))
theorem ext_form (t : List IHead) (l : List ByteArray) (n : Int) (s : ByteArray) (a : Int) (z : ByteArray) (x : List ByteArray) :
  extOf t l n s a z x = (if headOk a z = true then (if (a != ((l.length + x.length : Nat) : Int)) = true then (l, n, s, 1) else (if hasHead t a z = true then (if x.length = 0 then (l, n, s, 3) else (if isHead (l ++ x) a z = true then (l ++ x, a, z, 0) else (l, n, s, 4))) else (l, n, s, 2))) else (l, n, s, 1)) := by
 unfold extOf
 cases headOk a z <;> by_cases h : a = ((l.length + x.length : Nat) : Int) <;> simp [h]
theorem spec_Extend_ev (t : List IHead) (l : List ByteArray) (n : Int) (s : ByteArray) (a : Int) (z : ByteArray) (x : List ByteArray) (ht : t.length ≤ 9223372036854775807) (hs : ∀ y ∈ l ++ x, y.size ≤ bigB) (hl : l.length + x.length ≤ 1000000000) :
  Ev (fun k => spec_Extend.f k l n s t a z x) (extendOf t l n s a z x) := by
 have hs0 : ∀ y ∈ l, y.size ≤ bigB := fun y hy => hs y (List.mem_append_left _ hy)
 unfold spec_Extend.f extendOf
 rw [spec_l11Copy_eq l n s (by omega)]
 simp only [Option.bind_some, List.length_nil, List.nil_append, List.length_append, Nat.zero_add]
 refine Ev.pos (by omega) (Ev.pos (by omega) (Ev.bind (spec_LogOk_ev l n s hs0) ?_))
 by_cases h0 : logOk l n s = true
 ·rw [if_pos h0, ext_form]
  refine Ev.pos h0 (Ev.bind (Ev.const (spec_HeadOk_eq a z)) ?_)
  by_cases h1 : headOk a z = true
  ·rw [if_pos h1]
   exact Ev.pos h1 (extend_j0S t l n s a z x ht hs _)
  ·rw [if_neg h1]
   exact Ev.neg h1 (Ev.one (extend_j0S t l n s a z x ht hs true) (by rw [if_pos rfl]))
 ·rw [if_neg h0]
  exact Ev.neg h0 (Ev.one (extend_j0S t l n s a z x ht hs true) (by rw [if_pos rfl]))
theorem impl_extend_ev (t : List IHead) (l : List ByteArray) (n : Int) (s : ByteArray) (a : Int) (z : ByteArray) (x : List ByteArray) (ht : t.length ≤ 9223372036854775807) (hs : ∀ y ∈ l ++ x, y.size ≤ bigB) (hl : l.length + x.length ≤ 1000000000) :
  Ev (fun k => impl_extend.f k l n s t a z x) (extOf t l n s a z x) := by
 unfold impl_extend.f
 rw [ext_form]
 refine Ev.bind (Ev.const (impl_HeadOk_eq a z)) ?_
 by_cases h1 : headOk a z = true
 ·rw [if_pos h1, w64 (x := (l.length : Int) + (x.length : Int)) (by omega) (by omega)]
  exact Ev.pos h1 (extend_j0I t l n s a z x ht hs hl _)
 ·rw [if_neg h1]
  exact Ev.neg h1 (Ev.one (extend_j0I t l n s a z x ht hs hl true) (by rw [if_pos rfl]))
theorem spec_LogNew_ev : Ev (fun k => spec_LogNew.f k) (([] : List ByteArray), (headOf []).1, (headOf []).2) := by
 unfold spec_LogNew.f
 exact Ev.bind (spec_HeadOf_ev [] (by simp)) (Ev.now _)
theorem impl_LogNew_ev : Ev (fun k => impl_LogNew.f k) (([] : List ByteArray), (headOf []).1, (headOf []).2) := by
 unfold impl_LogNew.f
 exact Ev.bind (impl_HeadOf_ev [] (by simp)) (Ev.now _)
theorem spec_StoreNew_ev : Ev (fun k => spec_StoreNew.f k) (([] : List ByteArray), (headOf []).1, (headOf []).2, ([] : List Int), (0 : Int)) := by
 unfold spec_StoreNew.f
 exact Ev.bind spec_LogNew_ev (Ev.now _)
theorem impl_StoreNew_ev : Ev (fun k => impl_StoreNew.f k) (([] : List ByteArray), (headOf []).1, (headOf []).2, ([] : List Int), (0 : Int)) := by
 unfold impl_StoreNew.f
 exact Ev.bind impl_LogNew_ev (Ev.now _)
def Good (t : List IHead) (l : List ByteArray) (N : Nat) (s : ByteArray) (x : List ByteArray) : Prop := headOk (N : Int) s = true ∧ hasHead t (N : Int) s = true ∧ isHead (l ++ x) (N : Int) s = true ∧ N = l.length + x.length
inductive Opened (t : List IHead) : List ByteArray → List Int → List ByteArray → List Int → Nat → Prop
 | stop {l : List ByteArray} {b : List Int} (h : ∀ N s x r, b = commitB N s x ++ r → headOk (N : Int) s = true → 1 ≤ x.length → x.length ≤ 200 → (∀ y ∈ x, y.size ≤ 1000000000) → ¬ Good t l N s x) : Opened t l b l [] 0
 | step {l : List ByteArray} {r : List Int} {L : List ByteArray} {m : List Int} {c N : Nat} {s : ByteArray} {x : List ByteArray} (hk : headOk (N : Int) s = true) (h1 : 1 ≤ x.length) (h2 : x.length ≤ 200) (hs : ∀ y ∈ x, y.size ≤ 1000000000) (hg : Good t l N s x) (k : Opened t (l ++ x) r L m c) : Opened t l (commitB N s x ++ r) L (commitB N s x ++ m) (c + 1)
theorem ext_good {t : List IHead} {l : List ByteArray} {n : Int} {z : ByteArray} {N : Nat} {s : ByteArray} {x : List ByteArray} (h1 : 1 ≤ x.length) (hg : Good t l N s x) : extOf t l n z (N : Int) s x = (l ++ x, (N : Int), s, 0) := by
 obtain ⟨g1, g2, g3, g4⟩ := hg
 unfold extOf
 have e : ((N : Int) == ((l.length + x.length : Nat) : Int)) = true := by rw [g4]; exact beq_self_eq_true _
 rw [if_pos (by rw [g1, e]; rfl), if_pos g2, if_neg (by omega), if_pos g3]
theorem ext_bad {t : List IHead} {l : List ByteArray} (n : Int) (z : ByteArray) {N : Nat} {s : ByteArray} {x : List ByteArray} (hg : ¬ Good t l N s x) : ∃ c, extOf t l n z (N : Int) s x = (l, n, z, c) ∧ c ≠ 0 := by
 unfold extOf
 by_cases h0 : (headOk (N : Int) s && ((N : Int) == ((l.length + x.length : Nat) : Int))) = true
 ·rw [if_pos h0]
  by_cases h1 : hasHead t (N : Int) s = true
  ·rw [if_pos h1]
   by_cases h2 : x.length = 0
   ·rw [if_pos h2]
    exact ⟨3, rfl, by decide⟩
   ·rw [if_neg h2]
    by_cases h3 : isHead (l ++ x) (N : Int) s = true
    ·rw [Bool.and_eq_true] at h0
     exact absurd ⟨h0.1, h1, h3, by have := eq_of_beq h0.2; omega⟩ hg
    ·rw [if_neg h3]
     exact ⟨4, rfl, by decide⟩
  ·rw [if_neg h1]
   exact ⟨2, rfl, by decide⟩
 ·rw [if_neg h0]
  exact ⟨1, rfl, by decide⟩
theorem headOk_is {n : Int} {s : ByteArray} (h : headOk n s = true) : s.size = 32 ∧ 0 ≤ n ∧ n ≤ 200 := by
 unfold headOk at h
 by_cases hc : 0 ≤ n ∧ n ≤ 200
 ·rw [if_pos hc] at h
  have := eq_of_beq h
  omega
 ·rw [if_neg hc] at h
  cases h
theorem logOk_head {l : List ByteArray} (h : l.length ≤ 200) : logOk l (headOf l).1 (headOf l).2 = true := by
 unfold logOk
 rw [if_pos (by omega)]
 simp
theorem isHead_is {l : List ByteArray} {a : Int} {z : ByteArray} (h : isHead l a z = true) : a = (headOf l).1 ∧ z = (headOf l).2 := by
 unfold isHead at h
 rw [Bool.and_eq_true] at h
 exact ⟨eq_of_beq h.1, bytes_ext (eq_of_beq h.2)⟩
theorem commit_pos (N : Nat) (s : ByteArray) (x : List ByteArray) : 0 < (commitB N s x).length := by
 have := commitB_length N s x
 omega
theorem take_more {b : List Int} {a : Nat} {c r : List Int} (ha : a ≤ b.length) (h : b.drop a = c ++ r) : b.take a ++ c = b.take (a + c.length) ∧ r = b.drop (a + c.length) := by
 have e : b = b.take a ++ (c ++ r) := by rw [← h, List.take_append_drop]
 have hl : (b.take a).length = a := by rw [List.length_take]; omega
 constructor
 ·have : b.take (a + c.length) = (b.take a ++ (c ++ r)).take (a + c.length) := by rw [← e]
  rw [this, List.take_append, hl, List.take_take, Nat.min_eq_right (by omega), show a + c.length - a = c.length by omega]
  simp
 ·have : b.drop (a + c.length) = (b.drop a).drop c.length := by rw [List.drop_drop]
  rw [this, h]
  simp
theorem opened_evI (t : List IHead) (ht : t.length ≤ 9223372036854775807) (b : List Int) (hb : InB b) (hl : b.length ≤ 60000) {l : List ByteArray} {bs : List Int} {L : List ByteArray} {m : List Int} {c : Nat} (o : Opened t l bs L m c) :
  ∀ (a : Nat) (cnt : Int), bs = b.drop a → a ≤ b.length → l.length ≤ 200 → (∀ x ∈ l, x.size ≤ bigB) → 0 ≤ cnt → cnt + ((b.length - a : Nat) : Int) ≤ 60000 →
  Ev (fun k => impl_OpenStore.l0 k t b 0 cnt (a : Int) l (headOf l).1 (headOf l).2 (b.take a)) (L, (headOf L).1, (headOf L).2, b.take a ++ m, cnt + (c : Int)) ∧
  L.length ≤ 200 ∧ (∀ x ∈ L, x.size ≤ bigB) ∧ m.length + a ≤ b.length ∧ c ≤ b.length - a := by
 induction o with
 | @stop l bs h =>
  intro a cnt e ha h1 h2 h3 h4
  refine ⟨?_, h1, h2, by simp; omega, by omega⟩
  rw [List.append_nil, show cnt + ((0 : Nat) : Int) = cnt by omega]
  ·refine Ev.step (fun k => by simp only [impl_OpenStore.l0]; rfl) ?_
   by_cases hlt : (a : Int) < (b.length : Int)
   ·obtain ⟨n', s', x', nx', ok', e3, hx, c1, c2⟩ := getCommitI b hb (by omega) (a : Int) (by omega) (by omega)
    refine Ev.pos hlt (Ev.bind e3 ?_)
    cases hok : ok' with
    | false => exact Ev.neg (by simp) (Ev.now _)
    | true =>
     obtain ⟨a', N, g1, rfl, g2, g3, g4, g5, g6⟩ := c1 hok
     have ea : a' = a := by omega
     subst ea
     have hsm := commit_small (by omega) g4
     have hbad := h N s' x' _ (e.trans g4) g2 g3 hx hsm
     obtain ⟨q, hq, hq0⟩ := ext_bad (headOf l).1 (headOf l).2 hbad
     have w1 := commitB_length N s' x'
     have w2 := bodyB_ge N s' x'
     have htx : ∀ y ∈ x', y.size ≤ bigB := fun y hy => by
      have w3 := total_mem hy
      unfold bigB
      omega
     refine Ev.pos rfl ?_
     have hP := PutCommit_val (N : Int) s' x' (by omega) (by omega) hsm
     rw [if_pos ⟨g2, g3, hx⟩, Int.toNat_natCast] at hP
     have hE := impl_extend_ev t l (headOf l).1 (headOf l).2 (N : Int) s' x' ht (sizes_app h2 htx) (by omega)
     rw [hq] at hE
     have hlt2 : (b.take a').length = a' := by rw [List.length_take]; omega
     have hC : Ev (fun k => impl_Store_commit.f k l (headOf l).1 (headOf l).2 (b.take a') 0 t (N : Int) s' x') (l, (headOf l).1, (headOf l).2, b.take a', q) := by
      unfold impl_Store_commit.f
      refine Ev.bind hP (Ev.neg ?_ (Ev.bind hE (Ev.neg hq0 (Ev.now _))))
      rw [hlt2, w64 (by omega) (by omega)]
      omega
     exact Ev.bind hC (Ev.neg hq0 (Ev.now _))
   ·exact Ev.neg hlt (Ev.now _)
 | @step l r L m c N s x hk hx1 hx2 hsm hg o ih =>
  intro a cnt e ha h1 h2 h3 h4
  obtain ⟨e1, e2⟩ := take_more ha e.symm
  have hlen := commit_pos N s x
  have hdl : (b.drop a).length = b.length - a := List.length_drop
  have hcl : (commitB N s x).length ≤ b.length - a := by
   rw [← hdl, ← e, List.length_append]
   omega
  have w1 := commitB_length N s x
  have w2 := bodyB_ge N s x
  have htx : ∀ y ∈ x, y.size ≤ bigB := fun y hy => by
   have w3 := total_mem hy
   unfold bigB
   omega
  obtain ⟨hh1, hh2⟩ := isHead_is hg.2.2.1
  have hfew : (l ++ x).length ≤ 200 := by
   have := hg.2.2.2
   have hk' := hk
   unfold headOk at hk'
   rw [List.length_append]
   by_cases hc : (0 : Int) ≤ (N : Int) ∧ (N : Int) ≤ 200
   ·omega
   ·rw [if_neg hc] at hk'
    cases hk'
  obtain ⟨i2, i3, i4, i5, i6⟩ := ih (a + (commitB N s x).length) (cnt + 1) e2 (by omega) hfew (sizes_app h2 htx) (by omega) (by omega)
  rw [← hh1, ← hh2, ← e1, show cnt + 1 + (c : Int) = cnt + ((c + 1 : Nat) : Int) by omega, List.append_assoc] at i2
  have h32 := headOk_is hk
  have hlt : (a : Int) < (b.length : Int) := by omega
  have hlt2 : (b.take a).length = a := by rw [List.length_take]; omega
  have hread : ∃ nx, nx = ((a + (commitB N s x).length : Nat) : Int) ∧ Ev (fun q => spec_GetCommit.f q b (a : Int)) ((N : Int), s, x, nx, true) ∧ Ev (fun q => impl_GetCommit.f q b (a : Int)) ((N : Int), s, x, nx, true) := by
   obtain ⟨n, s', x', nx, ok, f1, f2, hx⟩ := getCommit_both b hb (by omega) (a : Int) (by omega) (by omega)
   obtain ⟨n', s'', x'', nx', ok', f3, _, c1, c2⟩ := getCommitI b hb (by omega) (a : Int) (by omega) (by omega)
   have hu := ev_uniq f3 f2
   simp only [Prod.mk.injEq] at hu
   obtain ⟨rfl, rfl, rfl, rfl, rfl⟩ := hu
   cases hok : ok' with
   | false => exact absurd ((c2 hok).2.2.2.2 a N s x r rfl e.symm hk hx1 hx2 hsm) (by simp)
   | true =>
    obtain ⟨a', N', g1, rfl, g2, g3, g4, g5, g6⟩ := c1 hok
    have ea : a' = a := by omega
    subst ea
    obtain ⟨rfl, rfl, rfl, _⟩ := commitB_inj (e.trans g4)
    rw [hok] at f1 f2
    exact ⟨nx', g5, f1, f2⟩
  obtain ⟨nx, hnx, f1, f2⟩ := hread
  subst hnx
  have w64c : wrap64 (cnt + 1) = cnt + 1 := w64 (by omega) (by omega)
  refine ⟨?_, i3, i4, by rw [List.length_append]; omega, by omega⟩
  ·have hP := PutCommit_val (N : Int) s x (by omega) (by omega) hsm
   rw [if_pos ⟨hk, hx1, hx2⟩, Int.toNat_natCast] at hP
   have hE := impl_extend_ev t l (headOf l).1 (headOf l).2 (N : Int) s x ht (sizes_app h2 htx) (by omega)
   rw [ext_good hx1 hg] at hE
   have hC : Ev (fun k => impl_Store_commit.f k l (headOf l).1 (headOf l).2 (b.take a) 0 t (N : Int) s x) (l ++ x, (N : Int), s, b.take a ++ commitB N s x, 0) := by
    unfold impl_Store_commit.f
    refine Ev.bind hP (Ev.neg ?_ (Ev.bind hE (Ev.pos rfl (Ev.pos (by rw [hlt2]; omega) (Ev.now _)))))
    rw [hlt2, w64 (by omega) (by omega)]
    omega
   refine Ev.step (fun k => by simp only [impl_OpenStore.l0]; rfl) ?_
   refine Ev.pos hlt (Ev.bind f2 (Ev.pos rfl (Ev.bind hC (Ev.pos rfl ?_))))
   rw [w64c]
   exact i2
theorem opened_some (t : List IHead) : ∀ (d : Nat) (l : List ByteArray) (b : List Int), b.length ≤ d → ∃ L m c, Opened t l b L m c := by
 intro d
 induction d with
 | zero =>
  intro l b hb
  refine ⟨l, [], 0, .stop (fun N s x r e _ _ _ _ _ => ?_)⟩
  have := commit_pos N s x
  have h2 : b.length = (commitB N s x ++ r).length := by rw [← e]
  rw [List.length_append] at h2
  omega
 | succ d ih =>
  intro l b hb
  by_cases h : ∃ N s x r, b = commitB N s x ++ r ∧ headOk (N : Int) s = true ∧ 1 ≤ x.length ∧ x.length ≤ 200 ∧ (∀ y ∈ x, y.size ≤ 1000000000) ∧ Good t l N s x
  ·obtain ⟨N, s, x, r, rfl, h1, h2, h3, h4, h5⟩ := h
   have := commit_pos N s x
   rw [List.length_append] at hb
   obtain ⟨L, m, c, o⟩ := ih (l ++ x) r (by omega)
   exact ⟨L, _, _, .step h1 h2 h3 h4 h5 o⟩
  ·exact ⟨l, [], 0, .stop (fun N s x r e h1 h2 h3 h4 h5 => h ⟨N, s, x, r, e, h1, h2, h3, h4, h5⟩)⟩
def firstB (b : List Int) : List Int := b.take 60000
theorem openStore_evI (t : List IHead) (ht : t.length ≤ 9223372036854775807) (b : List Int) (hb : InB b) {L : List ByteArray} {m : List Int} {c : Nat} (o : Opened t [] (firstB b) L m c) :
  Ev (fun k => impl_OpenStore.f k t b) (L, (headOf L).1, (headOf L).2, m, (m.length : Int), (c : Int)) ∧ L.length ≤ 200 ∧ (∀ x ∈ L, x.size ≤ bigB) ∧ m.length ≤ 60000 := by
 have hf : (firstB b).length ≤ 60000 := by
  unfold firstB
  rw [List.length_take]
  omega
 have hb2 : InB (firstB b) := fun x hx => hb x (List.mem_of_mem_take hx)
 obtain ⟨e2, e3, e4, e5, e6⟩ := opened_evI t ht (firstB b) hb2 hf o 0 0 rfl (by omega) (by simp) (by simp) (by omega) (by omega)
 simp only [List.take_zero, List.nil_append, Int.zero_add] at e2
 have s2 : b.take (mn (b.length : Int) 60000).toNat = firstB b := by
  unfold firstB mn
  by_cases h : (60000 : Int) < (b.length : Int)
  ·rw [if_pos h]
   rfl
  ·rw [if_neg h, Int.toNat_natCast, List.take_length, List.take_of_length_le (by omega)]
 refine ⟨?_, e3, e4, by omega⟩
 unfold impl_OpenStore.f
 rw [s2]
 exact Ev.bind impl_StoreNew_ev (Ev.bind e2 (Ev.now _))
theorem read_at {b : List Int} (hb : InB b) (hl : b.length ≤ 60000) {a N : Nat} {s : ByteArray} {x : List ByteArray} {r : List Int} (ha : a ≤ b.length) (e : b.drop a = commitB N s x ++ r) (hk : headOk (N : Int) s = true) (hx1 : 1 ≤ x.length) (hx2 : x.length ≤ 200) (hsm : ∀ y ∈ x, y.size ≤ 1000000000) :
  Ev (fun q => impl_GetCommit.f q b (a : Int)) ((N : Int), s, x, ((a + (commitB N s x).length : Nat) : Int), true) := by
 obtain ⟨n, s', x', nx, ok', f3, _, c1, c2⟩ := getCommitI b hb (by omega) (a : Int) (by omega) (by omega)
 cases hok : ok' with
 | false => exact absurd ((c2 hok).2.2.2.2 a N s x r rfl e hk hx1 hx2 hsm) (by simp)
 | true =>
  obtain ⟨a', N', g1, rfl, g2, g3, g4, g5, g6⟩ := c1 hok
  have ea : a' = a := by omega
  subst ea
  obtain ⟨rfl, rfl, rfl, _⟩ := commitB_inj (e.symm.trans g4)
  rw [hok, g5] at f3
  exact f3
theorem good_few {t : List IHead} {l : List ByteArray} {N : Nat} {s : ByteArray} {x : List ByteArray} (hg : Good t l N s x) : (l ++ x).length ≤ 200 := by
 have h1 := headOk_is hg.1
 have h2 := hg.2.2.2
 rw [List.length_append]
 omega
theorem replay_opened (t : List IHead) (b : List Int) (hb : InB b) (hl : b.length ≤ 60000) (T : List ByteArray) (N0 : Int) (S0 : ByteArray) (U : Int) {l : List ByteArray} {bs : List Int} {L : List ByteArray} {m : List Int} {c : Nat} (o : Opened t l bs L m c) :
  m = bs → L = T → ∀ a : Nat, bs = b.drop a → a ≤ b.length → l.length ≤ 200 → (∀ x ∈ l, x.size ≤ bigB) → Ev (fun k => impl_StoreOk.l0 k l (a : Int) T N0 S0 b U) true := by
 induction o with
 | @stop l bs h =>
  intro hm hT a e ha h1 h2
  have hz : (b.drop a).length = 0 := by rw [← e, ← hm]; rfl
  rw [List.length_drop] at hz
  refine Ev.step (fun k => by simp only [impl_StoreOk.l0]; rfl) ?_
  refine Ev.neg (by omega) (Ev.bind (impl_same_ev l T (by omega)) ?_)
  rw [decide_eq_true hT]
  exact Ev.now _
 | @step l r L m c N s x hk hx1 hx2 hsm hg o ih =>
  intro hm hT a e ha h1 h2
  obtain ⟨e1, e2⟩ := take_more ha e.symm
  have hlen := commit_pos N s x
  have hdl : (b.drop a).length = b.length - a := List.length_drop
  have hcl : (commitB N s x).length ≤ b.length - a := by
   rw [← hdl, ← e, List.length_append]
   omega
  have w1 := commitB_length N s x
  have w2 := bodyB_ge N s x
  have htx : ∀ y ∈ x, y.size ≤ bigB := fun y hy => by
   have w3 := total_mem hy
   unfold bigB
   omega
  have hfew := good_few hg
  have hgh := hg.2.2.1
  unfold isHead at hgh
  have hi := ih (List.append_cancel_left hm) hT (a + (commitB N s x).length) e2 (by omega) hfew (sizes_app h2 htx)
  refine Ev.step (fun k => by simp only [impl_StoreOk.l0]; rfl) ?_
  refine Ev.pos (by omega) (Ev.bind (read_at hb hl ha e.symm hk hx1 hx2 hsm) ?_)
  simp only
  refine Ev.pos (by rw [List.length_append] at hfew; omega) ?_
  simp only [Option.bind_some]
  refine Ev.pos trivial (Ev.bind (impl_HeadOf_ev (l ++ x) (sizes_app h2 htx)) (Ev.neg ?_ hi))
  rw [ne_head, hgh]
  simp
theorem opened_sizes {t : List IHead} {l : List ByteArray} {bs : List Int} {L : List ByteArray} {m : List Int} {c : Nat} (o : Opened t l bs L m c) : bs.length ≤ 60000 → l.length ≤ 200 → (∀ x ∈ l, x.size ≤ bigB) → L.length ≤ 200 ∧ (∀ x ∈ L, x.size ≤ bigB) := by
 induction o with
 | stop h => exact fun _ h1 h2 => ⟨h1, h2⟩
 | @step l r L m c N s x hk hx1 hx2 hsm hg o ih =>
  intro h0 h1 h2
  rw [List.length_append] at h0
  have w1 := commitB_length N s x
  have w2 := bodyB_ge N s x
  exact ih (by omega) (good_few hg) (sizes_app h2 (fun y hy => by
   have w3 := total_mem hy
   unfold bigB
   omega))
theorem storeOk_opened (t : List IHead) (b : List Int) (hb : InB b) (hl : b.length ≤ 60000) {L : List ByteArray} {c : Nat} (o : Opened t [] b L b c) (u : Int) (h0 : 0 ≤ u) (h1 : u ≤ b.length) : Ev (fun k => impl_StoreOk.f k L (headOf L).1 (headOf L).2 b u) true := by
 obtain ⟨hL, hs⟩ := opened_sizes o hl (by simp) (by simp)
 unfold impl_StoreOk.f
 refine Ev.bind (impl_LogOk_ev L _ _ hs) (Ev.pos (logOk_head hL) (Ev.neg (by omega) (Ev.bind (Ev.const (impl_in_eq _ _ _)) ?_)))
 rw [decide_eq_true ⟨h0, h1⟩]
 refine Ev.step (fun k => by simp only [impl_StoreOk.j0]; rfl) ?_
 exact Ev.neg (by simp) (replay_opened t b hb hl L _ _ u o rfl rfl 0 rfl (by omega) (by simp) (by simp))
theorem opened_nil (t : List IHead) (l : List ByteArray) : Opened t l [] l [] 0 := .stop (fun N s x r e _ _ _ _ _ => by
 have := commit_pos N s x
 have h2 : ([] : List Int).length = (commitB N s x ++ r).length := by rw [← e]
 rw [List.length_append, List.length_nil] at h2
 omega)
theorem opened_self {t : List IHead} {l : List ByteArray} {bs : List Int} {L : List ByteArray} {m : List Int} {c : Nat} (o : Opened t l bs L m c) : Opened t l m L m c := by
 induction o with
 | stop h => exact opened_nil t _
 | step hk h1 h2 hs hg _ ih => exact .step hk h1 h2 hs hg ih
theorem opened_more {t : List IHead} {l : List ByteArray} {b : List Int} {L : List ByteArray} {m : List Int} {c : Nat} (o : Opened t l b L m c) : m = b → ∀ {N : Nat} {s : ByteArray} {x : List ByteArray}, 1 ≤ x.length → x.length ≤ 200 → (∀ y ∈ x, y.size ≤ 1000000000) → Good t L N s x → Opened t l (b ++ commitB N s x) (L ++ x) (b ++ commitB N s x) (c + 1) := by
 induction o with
 | @stop l bs h =>
  intro hm N s x h1 h2 h3 hg
  subst hm
  have := Opened.step hg.1 h1 h2 h3 hg (opened_nil t (l ++ x))
  rw [List.append_nil] at this
  rw [List.nil_append]
  exact this
 | @step l r L m c N' s' x' hk hx1 hx2 hsm hg' o ih =>
  intro hm N s x h1 h2 h3 hg
  have e := List.append_cancel_left hm
  have := Opened.step hk hx1 hx2 hsm hg' (ih e h1 h2 h3 hg)
  rw [← List.append_assoc] at this
  exact this
def Drawer (s : List Int) (i : Int) : Prop := 0 ≤ i ∧ i ≤ (s.length : Int) ∧ s.length ≤ 1048576
theorem mask255 (y : Int) : 0 ≤ Go.bits .and .i64 y 255 ∧ Go.bits .and .i64 y 255 ≤ 255 := by
 have h : (BitVec.ofInt 64 y &&& BitVec.ofInt 64 255).toNat ≤ 255 := by
  rw [BitVec.toNat_and]
  exact Nat.le_trans Nat.and_le_right (by decide)
 have e : Go.bits .and .i64 y 255 = IntKind.i64.wrap ((BitVec.ofInt 64 y &&& BitVec.ofInt 64 255).toNat : Int) := rfl
 generalize (BitVec.ofInt 64 y &&& BitVec.ofInt 64 255).toNat = m at h e
 rw [e, wraps63 _ (Int.natCast_nonneg _) (by omega)]
 omega
theorem l1Byte_ok {s : List Int} {i : Int} (h : Int) (hd : Drawer s i) : ∃ b i' h', spec_l1Byte.f s i h = some (b, i', h') ∧ 0 ≤ b ∧ b ≤ 255 ∧ Drawer s i' := by
 obtain ⟨h0, h1, h2⟩ := hd
 unfold spec_l1Byte.f
 by_cases hc : i < (s.length : Int)
 ·rw [if_pos hc, if_pos h0]
  exact ⟨_, _, _, rfl, (mask255 _).1, (mask255 _).2, by rw [w64 (by omega) (by omega)]; omega, by rw [w64 (by omega) (by omega)]; omega, h2⟩
 ·rw [if_neg hc]
  exact ⟨_, _, _, rfl, (mask255 _).1, (mask255 _).2, h0, h1, h2⟩
theorem l1Below_ok {s : List Int} {i : Int} (h n : Int) (hd : Drawer s i) (hn : 1 ≤ n) (hn2 : n ≤ 4294967296) : ∃ b i' h', spec_l1Below.f s i h n = some (b, i', h') ∧ 0 ≤ b ∧ b < n ∧ Drawer s i' := by
 unfold spec_l1Below.f
 rw [if_neg (by omega)]
 obtain ⟨b, i1, h1, e1, b0, b1, d1⟩ := l1Byte_ok h hd
 by_cases hc : n ≤ 256
 ·rw [if_pos hc, e1]
  simp only [Option.bind_some]
  rw [if_neg (by omega)]
  refine ⟨_, _, _, rfl, ?_, ?_, d1⟩
  ·rw [Int.tmod_eq_emod_of_nonneg b0]
   exact Int.emod_nonneg _ (by omega)
  ·rw [Int.tmod_eq_emod_of_nonneg b0]
   exact Int.emod_lt_of_pos _ (by omega)
 ·obtain ⟨b', i2, h2, e2, b0', b1', d2⟩ := l1Byte_ok h1 d1
  obtain ⟨b'', i3, h3, e3, b0'', b1'', d3⟩ := l1Byte_ok h2 d2
  rw [if_neg hc, e1]
  simp only [Option.bind_some]
  rw [e2]
  simp only [Option.bind_some]
  rw [e3]
  simp only [Option.bind_some]
  rw [if_neg (by omega)]
  have e : wrap64 ((wrap64 ((wrap64 (b * 65536)) + (wrap64 (b' * 256)))) + b'') = b * 65536 + b' * 256 + b'' := by
   rw [w64 (x := b * 65536) (by omega) (by omega), w64 (x := b' * 256) (by omega) (by omega), w64 (x := b * 65536 + b' * 256) (by omega) (by omega), w64 (by omega) (by omega)]
  rw [e]
  refine ⟨_, _, _, rfl, ?_, ?_, d3⟩
  ·rw [Int.tmod_eq_emod_of_nonneg (by omega)]
   exact Int.emod_nonneg _ (by omega)
  ·rw [Int.tmod_eq_emod_of_nonneg (by omega)]
   exact Int.emod_lt_of_pos _ (by omega)
theorem l1Int_ok {s : List Int} {i : Int} (h : Int) (l : List Int) (hd : Drawer s i) (hn : 1 ≤ l.length) (hn2 : l.length ≤ 4294967296) : ∃ x i' h', spec_l1Int.f s i h l = some (x, i', h') ∧ x ∈ l ∧ Drawer s i' := by
 obtain ⟨b, i1, h1, e1, b0, b1, d1⟩ := l1Below_ok h (l.length : Int) hd (by omega) (by omega)
 unfold spec_l1Int.f
 rw [e1]
 simp only [Option.bind_some]
 rw [if_pos b0, if_pos b1]
 obtain ⟨x, hx⟩ := get_some (l := l) (i := b.toNat) (by omega)
 refine ⟨_, _, _, rfl, ?_, d1⟩
 have : rd l b = x := by
  unfold rd
  simp [List.getD_eq_getElem?_getD, hx]
 rw [this]
 exact List.mem_of_getElem? hx
theorem l1Str_ok {s : List Int} {i : Int} (h : Int) (l : List ByteArray) (hd : Drawer s i) (hn : 1 ≤ l.length) (hn2 : l.length ≤ 4294967296) : ∃ x i' h', spec_l1Str.f s i h l = some (x, i', h') ∧ x ∈ l ∧ Drawer s i' := by
 obtain ⟨b, i1, h1, e1, b0, b1, d1⟩ := l1Below_ok h (l.length : Int) hd (by omega) (by omega)
 unfold spec_l1Str.f
 rw [e1]
 simp only [Option.bind_some]
 rw [if_pos b0, if_pos b1]
 obtain ⟨x, hx⟩ := get_some (l := l) (i := b.toNat) (by omega)
 refine ⟨_, _, _, rfl, ?_, d1⟩
 have : rdOf ByteArray.empty l b = x := by
  unfold rdOf
  simp [List.getD_eq_getElem?_getD, hx]
 rw [this]
 exact List.mem_of_getElem? hx
theorem l1New_ev (l : List Int) (hl : l.length ≤ 1048576) : ∃ h, Ev (fun k => spec_l1New.f k l) (l, 0, h) := by
 have main : ∀ (d : Nat) (i : Nat) (x : Int), i + d = l.length → ∃ h, Ev (fun k => spec_l1New.l0 k l x (i : Int)) (l, 0, h) := by
  intro d
  induction d with
  | zero =>
   intro i x hi
   refine ⟨x, Ev.step (f := fun _ => some (l, 0, x)) (fun k => ?_) (Ev.now _)⟩
   simp only [spec_l1New.l0]
   rw [if_neg (by omega)]
  | succ d ih =>
   intro i x hi
   by_cases hc : (i : Int) < 4000
   ·obtain ⟨h, e⟩ := ih (i + 1) (Go.bits .and .i64 (wrap64 ((wrap64 ((wrap64 (x * 137)) + (wrap64 (rd l i)))) + 11)) 1073741823) (by omega)
    refine ⟨h, Ev.step (fun k => ?_) e⟩
    simp only [spec_l1New.l0]
    rw [if_pos (by omega), if_pos hc, if_pos (by omega), w64 (x := (i : Int) + 1) (by omega) (by omega)]
    rfl
   ·refine ⟨x, Ev.step (f := fun _ => some (l, 0, x)) (fun k => ?_) (Ev.now _)⟩
    simp only [spec_l1New.l0]
    rw [if_pos (by omega), if_neg hc]
 exact main l.length 0 (wrap64 (372372 + (l.length : Int))) (by omega)
theorem Drawer.new {l : List Int} (hl : l.length ≤ 1048576) : Drawer l 0 := ⟨by omega, by omega, hl⟩
theorem l6List_ev {s : List Int} {i : Int} (h : Int) (hd : Drawer s i) : ∃ l i' h', Ev (fun k => spec_l6List.f k s i h) (l, i', h') ∧ Drawer s i' ∧ l.length ≤ 8 ∧ ∀ x ∈ l, x.size ≤ 3 := by
 obtain ⟨n, i1, h1, e1, hn, d1⟩ := l1Int_ok h ([0, 1, 2, 3, 4, 5, 7, 8, 6] : List Int) hd (by decide) (by decide)
 have main : ∀ (n : Nat) (acc : List ByteArray) (i h : Int), Drawer s i → acc.length + n ≤ 8 → (∀ x ∈ acc, x.size ≤ 3) → ∃ l i' h', Ev (fun k => spec_l6List.l0 k acc (n : Int) s i h) (l, i', h') ∧ Drawer s i' ∧ l.length ≤ 8 ∧ ∀ x ∈ l, x.size ≤ 3 := by
  intro n
  induction n with
  | zero =>
   intro acc i h hd ha hx
   refine ⟨acc, i, h, Ev.step (f := fun _ => some (acc, i, h)) (fun k => ?_) (Ev.now _), hd, by omega, hx⟩
   simp only [spec_l6List.l0]
   rw [if_neg (by omega)]
  | succ n ih =>
   intro acc i h hd ha hx
   obtain ⟨t, i2, h2, e2, hs, d2⟩ := l1Str_ok h ([(⟨#[]⟩ : ByteArray), (⟨#[97]⟩ : ByteArray), (⟨#[98]⟩ : ByteArray), (⟨#[120, 121, 122]⟩ : ByteArray)] : List ByteArray) hd (by simp) (by simp)
   have hss : t.size ≤ 3 := by
    simp only [List.mem_cons, List.not_mem_nil, or_false] at hs
    rcases hs with rfl | rfl | rfl | rfl <;> decide
   obtain ⟨l, i3, h3, e3, d3, hl3, hx3⟩ := ih (acc ++ [t]) i2 h2 d2 (by simp; omega) (fun x hm => by
    rcases List.mem_append.1 hm with hm | hm
    ·exact hx x hm
    ·rw [List.mem_singleton.1 hm]
     exact hss)
   refine ⟨l, i3, h3, Ev.step (fun k => ?_) e3, d3, hl3, hx3⟩
   simp only [spec_l6List.l0]
   rw [if_pos (by omega), e2]
   simp only [Option.bind_some]
   rw [if_pos (by omega), w64 (x := ((n + 1 : Nat) : Int) - 1) (by omega) (by omega)]
   congr 1
   omega
 have hn2 : 0 ≤ n ∧ n ≤ 8 := by
  simp only [List.mem_cons, List.not_mem_nil, or_false] at hn
  omega
 obtain ⟨l, i2, h2, e2, d2, hl2, hx2⟩ := main n.toNat [] i1 h1 d1 (by simp; omega) (by simp)
 rw [show ((n.toNat : Nat) : Int) = n from by omega] at e2
 refine ⟨l, i2, h2, ?_, d2, hl2, hx2⟩
 unfold spec_l6List.f
 rw [e1]
 exact e2
theorem l1Once_ok {s : List Int} {i : Int} (h n : Int) (hd : Drawer s i) (hn : 1 ≤ n) (hn2 : n ≤ 4294967296) : ∃ b i' h', spec_l1Once.f s i h n = some (b, i', h') ∧ Drawer s i' := by
 obtain ⟨b, i1, h1, e1, _, _, d1⟩ := l1Below_ok h n hd hn hn2
 unfold spec_l1Once.f
 rw [e1]
 exact ⟨_, _, _, rfl, d1⟩
def HeadIn (l : List ByteArray) (x : S25) : Prop := ∃ n, n ≤ l.length ∧ x = ⟨(headOf (l.take n)).1, (headOf (l.take n)).2⟩
def lastHead (l : List ByteArray) : S25 := ⟨(headOf l).1, (headOf l).2⟩
theorem l10Table_ev {s : List Int} {i : Int} (h : Int) (hd : Drawer s i) (l : List ByteArray) (hl : l.length ≤ 200) (hs : ∀ x ∈ l, x.size ≤ bigB) :
  ∃ T i' h', Ev (fun k => spec_l10Table.f k s i h l) (T ++ [lastHead l], i', h') ∧ Drawer s i' ∧ T.length ≤ l.length ∧ ∀ x ∈ T, HeadIn l x := by
 have main : ∀ (d n : Nat) (acc : List (S25)) (i h : Int), n + d = l.length → Drawer s i → acc.length ≤ n → (∀ x ∈ acc, HeadIn l x) →
   ∃ T i' h', Ev (fun k => spec_l10Table.l0 k l acc (n : Int) s i h) (T ++ [lastHead l], i', h') ∧ Drawer s i' ∧ T.length ≤ l.length ∧ ∀ x ∈ T, HeadIn l x := by
  intro d
  induction d with
  | zero =>
   intro n acc i h hn hd ha hx
   have hnl : n = l.length := by omega
   subst hnl
   obtain ⟨b, i1, h1, e1, d1⟩ := l1Once_ok h 3 hd (by decide) (by decide)
   have nx : wrap64 ((l.length : Int) + 1) = ((l.length + 1 : Nat) : Int) := by
    rw [w64 (by omega) (by omega)]
    omega
   have hH := spec_HeadOf_ev (l.take l.length) (mem_take_of hs)
   have fin : Ev (fun k => spec_l10Table.l0 k l (acc ++ [lastHead l]) ((l.length + 1 : Nat) : Int) s i1 h1) (acc ++ [lastHead l], i1, h1) := by
    refine Ev.step (f := fun _ => some (acc ++ [lastHead l], i1, h1)) (fun k => ?_) (Ev.now _)
    simp only [spec_l10Table.l0]
    rw [if_neg (by omega)]
   have hl2 : (⟨(headOf (l.take l.length)).1, (headOf (l.take l.length)).2⟩ : S25) = lastHead l := by rw [List.take_length]; rfl
   refine ⟨acc, i1, h1, ?_, d1, by omega, hx⟩
   refine Ev.step (fun k => by simp only [spec_l10Table.l0]; rw [e1]) ?_
   simp only [Option.bind_some]
   rw [nx]
   refine Ev.pos (by omega) ?_
   by_cases hb : b = true
   ·refine Ev.pos hb (Ev.pos trivial (Ev.pos (by omega) (Ev.bind hH (Ev.pos (by omega) ?_))))
    rw [hl2]
    exact fin
   ·refine Ev.neg hb (Ev.pos (by omega) (Ev.bind hH (Ev.pos (by omega) ?_)))
    rw [hl2]
    exact fin
  | succ d ih =>
   intro n acc i h hn hd ha hx
   obtain ⟨b, i1, h1, e1, d1⟩ := l1Once_ok h 3 hd (by decide) (by decide)
   have nx : wrap64 ((n : Int) + 1) = ((n + 1 : Nat) : Int) := by
    rw [w64 (by omega) (by omega)]
    omega
   have hH := spec_HeadOf_ev (l.take n) (mem_take_of hs)
   by_cases hb : b = true
   ·obtain ⟨T, i2, h2, e2, d2, hT, hx2⟩ := ih (n + 1) acc i1 h1 (by omega) d1 (by omega) hx
    refine ⟨T, i2, h2, ?_, d2, hT, hx2⟩
    refine Ev.step (fun k => by simp only [spec_l10Table.l0]; rw [e1]) ?_
    simp only [Option.bind_some]
    rw [nx]
    exact Ev.pos (by omega) (Ev.pos hb (Ev.neg (by omega) e2))
   ·obtain ⟨T, i2, h2, e2, d2, hT, hx2⟩ := ih (n + 1) (acc ++ [⟨(headOf (l.take n)).1, (headOf (l.take n)).2⟩]) i1 h1 (by omega) d1 (by simp; omega) (fun x hm => by
     rcases List.mem_append.1 hm with hm | hm
     ·exact hx x hm
     ·exact ⟨n, by omega, List.mem_singleton.1 hm⟩)
    refine ⟨T, i2, h2, ?_, d2, hT, hx2⟩
    refine Ev.step (fun k => by simp only [spec_l10Table.l0]; rw [e1]) ?_
    simp only [Option.bind_some]
    rw [nx]
    exact Ev.pos (by omega) (Ev.neg hb (Ev.pos (by omega) (Ev.bind hH (Ev.pos (by omega) e2))))
 exact main l.length 0 [] i h (by omega) hd (by simp) (by simp)
theorem few_total {l : List ByteArray} {n : Nat} (hx : ∀ x ∈ l, x.size ≤ n) : total l ≤ n * (l.length : Int) := by
 induction l with
 | nil => simp [total]
 | cons a l ih =>
  have h1 := hx a (by simp)
  have h2 := ih (fun x hm => hx x (by simp [hm]))
  rw [total_cons]
  simp only [List.length_cons]
  have : (n : Int) * ((l.length + 1 : Nat) : Int) = n * (l.length : Int) + n := by
   rw [Int.natCast_add, Int.mul_add]
   simp
  omega
theorem commit_small9 (N : Nat) {l : List ByteArray} {s : ByteArray} (hN : N ≤ 200) (hl : l.length ≤ 20) (hx : ∀ x ∈ l, x.size ≤ 3) (hs : s.size = 32) : (commitB N s l).length ≤ 1000 := by
 have w1 := commitB_length N s l
 have ht := few_total hx
 have hm := manyB_length l (fun x hm => by have := hx x hm; omega)
 have n0 := num_five (show N ≤ 1000000000 by omega)
 have n1 := num_five (show l.length ≤ 1000000000 by omega)
 have n2 := num_five (show s.size ≤ 1000000000 by omega)
 have hb : (bodyB N s l).length ≤ 500 := by
  unfold bodyB textsB
  rw [List.length_append, List.length_append, List.length_append, textB_length]
  omega
 have n3 := num_five (show (bodyB N s l).length ≤ 1000000000 by omega)
 omega
theorem specCommit_ev (t : List IHead) (ht : t.length ≤ 9223372036854775807) (l : List ByteArray) (b : List Int) (u : Int) (hl : l.length ≤ 200) (hs : ∀ y ∈ l, y.size ≤ bigB) (hb : b.length ≤ 60000) {x : List ByteArray} (h1 : 1 ≤ x.length) (h2 : (l ++ x).length ≤ 20) (hx : ∀ y ∈ x, y.size ≤ 3) :
  (Good t l (l ++ x).length (rootBy leafH (l ++ x)) x ∧ Ev (fun k => spec_l12Commit.f k l (headOf l).1 (headOf l).2 b u t ((l ++ x).length : Int) (rootBy leafH (l ++ x)) x) (l ++ x, ((l ++ x).length : Int), rootBy leafH (l ++ x), b ++ commitB (l ++ x).length (rootBy leafH (l ++ x)) x, u, 0)) ∨
  (∃ q, Ev (fun k => spec_l12Commit.f k l (headOf l).1 (headOf l).2 b u t ((l ++ x).length : Int) (rootBy leafH (l ++ x)) x) (l, (headOf l).1, (headOf l).2, b, u, q)) := by
 have hxb : ∀ y ∈ x, y.size ≤ bigB := fun y hy => by have := hx y hy; unfold bigB; omega
 have hxl : x.length ≤ 20 := by rw [List.length_append] at h2; omega
 have hsm := commit_small9 (l ++ x).length (by omega) hxl hx (root_32 (l ++ x))
 have hE := spec_Extend_ev t l (headOf l).1 (headOf l).2 ((l ++ x).length : Int) (rootBy leafH (l ++ x)) x ht (sizes_app hs hxb) (by omega)
 unfold extendOf at hE
 rw [if_pos (logOk_head hl)] at hE
 have hcp := spec_l12Copy_eq l (headOf l).1 (headOf l).2 b u (by omega) (by omega)
 by_cases hg : Good t l (l ++ x).length (rootBy leafH (l ++ x)) x
 ·left
  refine ⟨hg, ?_⟩
  rw [ext_good h1 hg] at hE
  have htt := few_total hx
  have hP := l12Put_val (l ++ x).length (rootBy leafH (l ++ x)) x (by omega) (by rw [root_32]; omega) (by omega) (by omega) (fun y hy => by have := hx y hy; omega)
  unfold spec_l12Commit.f
  rw [hcp]
  simp only [Option.bind_some]
  exact Ev.bind hE (Ev.pos rfl (Ev.bind hP (Ev.pos (by omega) (Ev.now _))))
 ·right
  obtain ⟨q, hq, hq0⟩ := ext_bad (headOf l).1 (headOf l).2 hg
  rw [hq] at hE
  refine ⟨q, ?_⟩
  unfold spec_l12Commit.f
  rw [hcp]
  simp only [Option.bind_some]
  exact Ev.bind hE (Ev.neg hq0 (Ev.now _))
structure Stored (t : List IHead) (all l : List ByteArray) (b : List Int) (u : Int) (d : Nat) : Prop where
 opened : ∃ c, Opened t [] b l b c
 begins : ∃ n, l = all.take n
 sure : 0 ≤ u ∧ u ≤ b.length
 bytes : InB b
 small : b.length ≤ 1000 * d
theorem sub_w {a b : Nat} (h : a < b) (hb : b ≤ 20) : wrap64 ((b : Int) - (a : Int)) = ((b - a : Nat) : Int) := by
 rw [w64 (by omega) (by omega)]
 omega
theorem add_w {a y : Nat} (h : a + 1 + y ≤ 20) : wrap64 (wrap64 ((a : Int) + 1) + (y : Int)) = ((a + 1 + y : Nat) : Int) := by
 rw [w64 (x := (a : Int) + 1) (by omega) (by omega), w64 (by omega) (by omega)]
 omega
theorem pred_w {d : Nat} (h : d ≤ 20) : wrap64 (((d + 1 : Nat) : Int) - 1) = (d : Int) := by
 rw [w64 (by omega) (by omega)]
 omega
theorem take_cut {all l : List ByteArray} {n m : Nat} (hn : l = all.take n) (hm : l.length ≤ m) : all.take m = l ++ (all.take m).drop l.length := by
 have hl' : all.take l.length = l := by
  conv => rhs; rw [hn]
  rw [hn, List.length_take]
  by_cases hc : n ≤ all.length
  ·rw [Nat.min_eq_left hc]
  ·rw [Nat.min_eq_right (by omega), List.take_of_length_le (show all.length ≤ n by omega), List.take_length]
 have : (all.take m).take l.length = all.take l.length := by rw [List.take_take, Nat.min_eq_left hm]
 conv => lhs; rw [← List.take_append_drop l.length (all.take m)]
 rw [this, hl']
set_option maxHeartbeats 4000000 in
theorem draw_l0 {s : List Int} (all : List ByteArray) (ha : all.length ≤ 20) (hx : ∀ y ∈ all, y.size ≤ 3) (t : List IHead) (ht : t.length ≤ 1000) : ∀ (d e : Nat) (i h : Int) (l : List ByteArray) (b : List Int) (u : Int), d + e ≤ 10 → Drawer s i → Stored t all l b u e →
  ∃ l' b' u' i' h', Ev (fun k => spec_l12Draw.l0 k all t (d : Int) s i h l (headOf l).1 (headOf l).2 b u) (l', (headOf l').1, (headOf l').2, b', u', all, t, i', h') ∧ Stored t all l' b' u' (d + e) ∧ Drawer s i' := by
 intro d
 induction d with
 | zero =>
  intro e i h l b u hd hr hS
  refine ⟨l, b, u, i, h, ?_, by rw [Nat.zero_add]; exact hS, hr⟩
  refine Ev.step (fun k => by simp only [spec_l12Draw.l0]; rfl) ?_
  exact Ev.neg (by omega) (Ev.now _)
 | succ d ih =>
  intro e i h l b u hd hr hS
  obtain ⟨n, hn⟩ := hS.begins
  obtain ⟨c, ho⟩ := hS.opened
  have hll : l.length ≤ all.length := by rw [hn, List.length_take]; omega
  have hsm := hS.small
  have hlx : ∀ y ∈ l, y.size ≤ 3 := fun y hy => hx y (by rw [hn] at hy; exact List.mem_of_mem_take hy)
  have hlb : ∀ y ∈ l, y.size ≤ bigB := fun y hy => by have := hlx y hy; unfold bigB; omega
  have d20 : d ≤ 20 := by omega
  refine Exists.elim (l1Once_ok h 3 hr (by decide) (by decide)) (fun q0 hq0 => ?_)
  by_cases hlt : (l.length : Int) < (all.length : Int)
  ·have hlt2 : l.length < all.length := by omega
   obtain ⟨y, i1, h1, e1, y0, y1, d1⟩ := l1Below_ok h ((all.length - l.length : Nat) : Int) hr (by omega) (by omega)
   obtain ⟨y, rfl⟩ := Int.eq_ofNat_of_zero_le y0
   have hm : l.length + 1 + y ≤ all.length := by omega
   have hm20 : l.length + 1 + y ≤ 20 := by omega
   have ecut := take_cut (m := l.length + 1 + y) hn (by omega)
   have ex : ∃ x, x = (all.take (l.length + 1 + y)).drop l.length := ⟨_, rfl⟩
   obtain ⟨x, hxe⟩ := ex
   rw [← hxe] at ecut
   have hxl : x.length = y + 1 := by
    rw [hxe, List.length_drop, List.length_take]
    omega
   have hxx : ∀ z ∈ x, z.size ≤ 3 := fun z hz => hx z (by rw [hxe] at hz; exact List.mem_of_mem_take (List.mem_of_mem_drop hz))
   have hcl : (l ++ x).length = l.length + 1 + y := by rw [List.length_append]; omega
   have hHead := spec_HeadOf_ev (l ++ x) (sizes_app hlb (fun z hz => by have := hxx z hz; unfold bigB; omega))
   rw [headOf_few (by omega)] at hHead
   have step : ∀ {L : List ByteArray} {N : Int} {Z : ByteArray} {B : List Int} {q : Int}, Ev (fun k => spec_l12Commit.f k l (headOf l).1 (headOf l).2 b u t ((l ++ x).length : Int) (rootBy leafH (l ++ x)) x) (L, N, Z, B, u, q) → N = (headOf L).1 → Z = (headOf L).2 → Stored t all L B u (e + 1) →
     ∃ l' b' u' i' h', Ev (fun k => spec_l12Draw.l0 k all t ((d + 1 : Nat) : Int) s i h l (headOf l).1 (headOf l).2 b u) (l', (headOf l').1, (headOf l').2, b', u', all, t, i', h') ∧ Stored t all l' b' u' (d + 1 + e) ∧ Drawer s i' := by
    intro L N Z B q hC hN hZ hSt
    subst hN hZ
    obtain ⟨o, i2, h2, e2, d2⟩ := l1Once_ok h1 3 d1 (by decide) (by decide)
    have fin : ∀ u', Stored t all L B u' (e + 1) → (o = true → u' = (B.length : Int)) → (o = false → u' = u) → ∃ l' b' u'' i' h', Ev (fun k => spec_l12Draw.l0 k all t ((d + 1 : Nat) : Int) s i h l (headOf l).1 (headOf l).2 b u) (l', (headOf l').1, (headOf l').2, b', u'', all, t, i', h') ∧ Stored t all l' b' u'' (d + 1 + e) ∧ Drawer s i' := by
     intro u' hSt' ho1 ho2
     obtain ⟨l', b', u'', i', h', j1, j2, j3⟩ := ih (e + 1) i2 h2 L B u' (by omega) d2 hSt'
     refine ⟨l', b', u'', i', h', ?_, by rw [show d + 1 + e = d + (e + 1) by omega]; exact j2, j3⟩
     refine Ev.step (fun k => by simp only [spec_l12Draw.l0]; rfl) ?_
     rw [sub_w hlt2 ha, pred_w d20]
     refine Ev.pos (by omega) (Ev.pos hlt (Ev.bind (Ev.const e1) ?_))
     simp only
     rw [add_w hm20, Int.toNat_natCast, Int.toNat_natCast, ← hxe, ecut]
     rw [hcl] at hHead hC
     refine Ev.pos (by omega) (Ev.pos (by omega) (Ev.bind hHead (Ev.pos (by omega) (Ev.pos (by omega) (Ev.bind hC (Ev.bind (Ev.const e2) ?_))))))
     cases o with
     | true =>
      rw [ho1 rfl] at j1
      exact Ev.pos rfl j1
     | false =>
      rw [ho2 rfl] at j1
      exact Ev.neg (by simp) j1
    cases o with
    | true => exact fin (B.length : Int) ⟨hSt.opened, hSt.begins, ⟨by omega, by omega⟩, hSt.bytes, hSt.small⟩ (fun _ => rfl) (fun h => nomatch h)
    | false => exact fin u hSt (fun h => nomatch h) (fun _ => rfl)
   rcases specCommit_ev t (by omega) l b u (by omega) hlb (by omega) (x := x) (by omega) (by omega) hxx with ⟨hg, hC⟩ | ⟨q, hC⟩
   ·have hh := headOf_few (l := l ++ x) (by omega)
    refine step hC (by rw [hh]) (by rw [hh]) ?_
    have hcs := commit_small9 (l ++ x).length (by omega) (l := x) (by omega) hxx (root_32 (l ++ x))
    refine ⟨⟨_, opened_more ho rfl (by omega) (by omega) (fun z hz => by have := hxx z hz; omega) hg⟩, ⟨l.length + 1 + y, ecut.symm⟩, ⟨hS.sure.1, by rw [List.length_append]; have := hS.sure.2; omega⟩, inB_app hS.bytes (commitB_inB _ _ _), by rw [List.length_append]; omega⟩
   ·exact step hC rfl rfl ⟨hS.opened, hS.begins, hS.sure, hS.bytes, by omega⟩
  ·obtain ⟨i2, h2, e2, d2⟩ := hq0
   have fin : ∀ u', Stored t all l b u' (e + 1) → (q0 = true → u' = (b.length : Int)) → (q0 = false → u' = u) → ∃ l' b' u'' i' h', Ev (fun k => spec_l12Draw.l0 k all t ((d + 1 : Nat) : Int) s i h l (headOf l).1 (headOf l).2 b u) (l', (headOf l').1, (headOf l').2, b', u'', all, t, i', h') ∧ Stored t all l' b' u'' (d + 1 + e) ∧ Drawer s i' := by
    intro u' hSt' ho1 ho2
    obtain ⟨l', b', u'', i', h', j1, j2, j3⟩ := ih (e + 1) i2 h2 l b u' (by omega) d2 hSt'
    refine ⟨l', b', u'', i', h', ?_, by rw [show d + 1 + e = d + (e + 1) by omega]; exact j2, j3⟩
    refine Ev.step (fun k => by simp only [spec_l12Draw.l0]; rfl) ?_
    rw [pred_w d20]
    refine Ev.pos (by omega) (Ev.neg hlt (Ev.bind (Ev.const e2) ?_))
    cases q0 with
    | true =>
     rw [ho1 rfl] at j1
     exact Ev.pos rfl j1
    | false =>
     rw [ho2 rfl] at j1
     exact Ev.neg (by simp) j1
   cases q0 with
   | true => exact fin (b.length : Int) ⟨hS.opened, hS.begins, ⟨by omega, by omega⟩, hS.bytes, by omega⟩ (fun _ => rfl) (fun h => nomatch h)
   | false => exact fin u ⟨hS.opened, hS.begins, hS.sure, hS.bytes, by omega⟩ (fun h => nomatch h) (fun _ => rfl)
theorem l12Draw_ev {s : List Int} {i : Int} (h : Int) (hd : Drawer s i) : ∃ l b u all t i' h', Ev (fun k => spec_l12Draw.f k s i h) (l, (headOf l).1, (headOf l).2, b, u, all, t, i', h') ∧ Stored t all l b u 3 ∧ Drawer s i' ∧ all.length ≤ 9 ∧ 1 ≤ all.length ∧ (∀ x ∈ all, x.size ≤ 3) ∧ t.length ≤ 1000 := by
 obtain ⟨a, i1, h1, e1, d1, ha, hx⟩ := l6List_ev h hd
 have hx2 : ∀ x ∈ a ++ [(⟨#[113]⟩ : ByteArray)], x.size ≤ 3 := fun x hm => by
  rcases List.mem_append.1 hm with hm | hm
  ·exact hx x hm
  ·rw [List.mem_singleton.1 hm]
   decide
 have hal : (a ++ [(⟨#[113]⟩ : ByteArray)]).length = a.length + 1 := by simp
 obtain ⟨T, i2, h2, e2, d2, hT, _⟩ := l10Table_ev h1 d1 (a ++ [(⟨#[113]⟩ : ByteArray)]) (by omega) (fun x hm => by have := hx2 x hm; unfold bigB; omega)
 have hTl : (T ++ [lastHead (a ++ [(⟨#[113]⟩ : ByteArray)])]).length = T.length + 1 := by simp
 obtain ⟨n, i3, h3, e3, n0, n1, d3⟩ := l1Below_ok h2 4 d2 (by decide) (by decide)
 obtain ⟨n, rfl⟩ := Int.eq_ofNat_of_zero_le n0
 obtain ⟨l', b', u', i', h', j1, j2, j3⟩ := draw_l0 (s := s) (a ++ [(⟨#[113]⟩ : ByteArray)]) (by omega) hx2 (T ++ [lastHead (a ++ [(⟨#[113]⟩ : ByteArray)])]) (by omega) n 0 i3 h3 [] [] 0 (by omega) d3 ⟨⟨0, opened_nil _ _⟩, ⟨0, rfl⟩, ⟨by omega, by simp⟩, by simp [InB], by simp⟩
 refine ⟨l', b', u', _, _, i', h', ?_, ⟨j2.opened, j2.begins, j2.sure, j2.bytes, by have := j2.small; omega⟩, j3, by omega, by omega, hx2, by omega⟩
 unfold spec_l12Draw.f
 refine Ev.bind e1 ?_
 simp only
 exact Ev.pos (by omega) (Ev.bind (Ev.now _) (Ev.bind e2 (Ev.bind spec_StoreNew_ev (Ev.bind (Ev.const e3) j1))))
theorem l11Any_ev {s : List Int} {i : Int} (h : Int) (hd : Drawer s i) : ∃ l n r i' h', Ev (fun k => spec_l11Any.f k s i h) (l, n, r, i', h') ∧ Drawer s i' ∧ l.length ≤ 9 ∧ ∀ x ∈ l, x.size ≤ bigB := by
 obtain ⟨l, i1, h1, e1, d1, hl, hx⟩ := l6List_ev h hd
 have hb : ∀ x ∈ l, x.size ≤ bigB := fun x hm => by
  have := hx x hm
  unfold bigB
  omega
 have e2 : Ev (fun k => spec_l11Log.f k l) (l, (headOf l).1, (headOf l).2) := by
  unfold spec_l11Log.f
  exact Ev.bind (spec_HeadOf_ev l hb) (Ev.now _)
 obtain ⟨c, i2, h2, e3, _, _, d2⟩ := l1Below_ok h1 10 d1 (by decide) (by decide)
 have main : ∀ r, Ev (fun _ : Nat => if c = 0 then (if l.length < 8796093022208 then (some ((l ++ [(⟨#[120]⟩ : ByteArray)]), (headOf l).1, (headOf l).2, i2, h2)) else (none)) else (if c = 1 then (some (l, wrap64 ((headOf l).1 + 1), (headOf l).2, i2, h2)) else (some (l, (headOf l).1, (headOf l).2, i2, h2)))) r → Ev (fun k => spec_l11Any.f k s i h) r := fun r hr => by
  unfold spec_l11Any.f
  exact Ev.bind e1 (Ev.bind e2 (Ev.bind (Ev.const e3) hr))
 by_cases h0 : c = 0
 ·refine ⟨_, _, _, _, _, main _ (Ev.pos h0 (Ev.pos (by omega) (Ev.now _))), d2, by simp; omega, fun x hm => ?_⟩
  rcases List.mem_append.1 hm with hm | hm
  ·exact hb x hm
  ·rw [List.mem_singleton.1 hm]
   decide
 ·by_cases h1 : c = 1
  ·exact ⟨_, _, _, _, _, main _ (Ev.neg h0 (Ev.pos h1 (Ev.now _))), d2, by omega, hb⟩
  ·exact ⟨_, _, _, _, _, main _ (Ev.neg h0 (Ev.neg h1 (Ev.now _))), d2, by omega, hb⟩
def SmallS (l : List ByteArray) (b : List Int) : Prop := l.length ≤ 20 ∧ (∀ x ∈ l, x.size ≤ bigB) ∧ InB b ∧ b.length ≤ 4000
theorem stored_small {t : List IHead} {all l : List ByteArray} {b : List Int} {u : Int} (h : Stored t all l b u 3) (ha : all.length ≤ 9) (hx : ∀ x ∈ all, x.size ≤ 3) : SmallS l b := by
 obtain ⟨n, hn⟩ := h.begins
 have := h.small
 refine ⟨?_, fun x hm => ?_, h.bytes, by omega⟩
 ·rw [hn, List.length_take]
  omega
 ·rw [hn] at hm
  have := hx x (List.mem_of_mem_take hm)
  unfold bigB
  omega
abbrev StoreT := List ByteArray × Int × ByteArray × List Int × Int × Int × Int
theorem l12Any_ev {s : List Int} {i : Int} (h : Int) (hd : Drawer s i) : ∃ r : StoreT, Ev (fun k => spec_l12Any.f k s i h) r ∧ SmallS r.1 r.2.2.2.1 ∧ Drawer s r.2.2.2.2.2.1 := by
 obtain ⟨l, b, u, all, t, i1, h1, e1, hS, d1, ha, _, hx, _⟩ := l12Draw_ev h hd
 have hs := stored_small hS ha hx
 generalize (headOf l).1 = n at e1
 generalize (headOf l).2 = z at e1
 obtain ⟨c, i2, h2, e2, c0, c1, d2⟩ := l1Below_ok h1 12 d1 (by decide) (by decide)
 unfold spec_l12Any.f
 refine exb e1 (exb (Ev.const e2) ?_)
 simp only
 by_cases k0 : c = 0
 ·obtain ⟨y, i3, h3, e3, _, d3⟩ := l1Int_ok h2 ([(-1), (b.length : Int), wrap64 ((b.length : Int) + 1)] : List Int) d2 (by simp) (by simp)
  exact exp_ k0 (exb (Ev.const e3) ⟨_, Ev.now _, hs, d3⟩)
 refine exn_ k0 ?_
 by_cases k1 : c = 1
 ·obtain ⟨s1, s2, s3, s4⟩ := hs
  refine exp_ k1 (exp_ (by omega) ⟨_, Ev.now _, ⟨s1, s2, inB_app s3 (fun x hm => ?_), ?_⟩, d2⟩)
  ·rw [List.mem_singleton.1 hm]
   decide
  ·obtain ⟨_, _, _, s4⟩ := stored_small hS ha hx
   have := hS.small
   simp only [List.length_append, List.length_singleton]
   omega
 refine exn_ k1 ?_
 by_cases k2 : c = 2
 ·obtain ⟨L, N, R, i3, h3, e3, d3, hL, hLs⟩ := l11Any_ev h2 d2
  exact exp_ k2 (exb e3 ⟨_, Ev.now _, ⟨by simp only; omega, hLs, hs.2.2.1, hs.2.2.2⟩, d3⟩)
 ·exact exn_ k2 ⟨_, Ev.now _, hs, d2⟩
theorem good_more {t t2 : List IHead} {l : List ByteArray} {N : Nat} {s : ByteArray} {x : List ByteArray} (h : ∀ a z, hasHead t a z = true → hasHead t2 a z = true) (g : Good t l N s x) : Good t2 l N s x := ⟨g.1, h _ _ g.2.1, g.2.2.1, g.2.2.2⟩
theorem opened_mono {t t2 : List IHead} (h : ∀ a z, hasHead t a z = true → hasHead t2 a z = true) {l : List ByteArray} {b : List Int} {L : List ByteArray} {m : List Int} {c : Nat} (o : Opened t l b L m c) : m = b → Opened t2 l b L b c := by
 induction o with
 | @stop l bs hs =>
  intro hm
  subst hm
  exact opened_nil t2 l
 | @step l r L m c N s x hk h1 h2 hs hg o ih =>
  intro hm
  exact .step hk h1 h2 hs (good_more h hg) (ih (List.append_cancel_left hm))
theorem has_cons (y : IHead) (t : List IHead) (a : Int) (z : ByteArray) (h : hasHead t a z = true) : hasHead (y :: t) a z = true := by
 unfold hasHead at h ⊢
 rw [List.any_cons, h, Bool.or_true]
theorem has_head (a : Int) (z : ByteArray) (t : List IHead) : hasHead (⟨a, z⟩ :: t) a z = true := by
 unfold hasHead
 rw [List.any_cons]
 simp
theorem replay_conv (b : List Int) (hb : InB b) (hl : b.length ≤ 60000) (L : List ByteArray) (hL : L.length ≤ 200) (N : Int) (S : ByteArray) (U : Int) : ∀ (m a : Nat) (T : List ByteArray), b.length - a ≤ m → a ≤ b.length → T.length ≤ 200 → (∀ x ∈ T, x.size ≤ bigB) → Ev (fun k => impl_StoreOk.l0 k T (a : Int) L N S b U) true → ∃ t c, Opened t T (b.drop a) L (b.drop a) c := by
 intro m
 induction m with
 | zero =>
  intro a T h1 h2 h3 h4 hE
  have e0 : Ev (fun k => impl_StoreOk.l0 k T (a : Int) L N S b U) (decide (T = L)) := by
   refine Ev.step (fun k => by simp only [impl_StoreOk.l0]; rfl) ?_
   exact Ev.neg (by omega) (Ev.bind (impl_same_ev T L (by omega)) (Ev.now _))
  have e1 := of_decide_eq_true (ev_uniq e0 hE)
  subst e1
  rw [List.drop_of_length_le (by omega)]
  exact ⟨[], 0, opened_nil _ _⟩
 | succ m ih =>
  intro a T h1 h2 h3 h4 hE
  by_cases ha : (a : Int) < (b.length : Int)
  ·obtain ⟨n1, s1, t, nx, ok, e1, ht, c1, c2⟩ := getCommitI b hb (by omega) (a : Int) (by omega) (by omega)
   cases ok with
   | false =>
    have e0 : Ev (fun k => impl_StoreOk.l0 k T (a : Int) L N S b U) false := by
     refine Ev.step (fun k => by simp only [impl_StoreOk.l0]; rfl) ?_
     refine Ev.pos ha (Ev.bind e1 (Ev.pos (by simp only; omega) ?_))
     simp only [Option.bind_some]
     exact Ev.neg (by simp) (Ev.now _)
    exact absurd (ev_uniq e0 hE) (by simp)
   | true =>
    obtain ⟨a', n', g1, rfl, g3, g4, g5, g6, g7⟩ := c1 rfl
    obtain rfl : a = a' := by omega
    subst g6
    have w1 := commitB_length n' s1 t
    have w2 := bodyB_ge n' s1 t
    have htx : ∀ y ∈ t, y.size ≤ 60000 := fun y hy => by
     have w3 := total_mem hy
     omega
    clear w2 c1 c2
    have htb : ∀ y ∈ t, y.size ≤ bigB := fun y hy => by
     have := htx y hy
     unfold bigB
     omega
    have hsz := sizes_app h4 htb
    have hI : ∀ r, Ev (fun k => if (!((n' : Int) == (headOf (T ++ t)).1) || (!(s1.toList == (headOf (T ++ t)).2.toList))) = true then some false else impl_StoreOk.l0 k (T ++ t) ((a + (commitB n' s1 t).length : Nat) : Int) L N S b U) r → Ev (fun k => impl_StoreOk.l0 k T (a : Int) L N S b U) r := by
     intro r hr
     refine Ev.step (fun k => by simp only [impl_StoreOk.l0]; rfl) ?_
     refine Ev.pos ha (Ev.bind e1 (Ev.pos (by simp only; omega) ?_))
     simp only [Option.bind_some]
     exact Ev.pos trivial (Ev.bind (impl_HeadOf_ev (T ++ t) hsz) hr)
    by_cases hh : (!((n' : Int) == (headOf (T ++ t)).1) || (!(s1.toList == (headOf (T ++ t)).2.toList))) = true
    ·exact absurd (ev_uniq (hI _ (Ev.pos hh (Ev.now _))) hE) (by simp)
    ·by_cases hm : (T ++ t).length ≤ 200
     ·obtain ⟨_, _, _, _, _, _, _, f4⟩ := replay_both b hb (by omega) L hL N S U (b.length - (a + (commitB n' s1 t).length)) (a + (commitB n' s1 t).length) (T ++ t) 0 ⟨#[]⟩ (Nat.le_refl _) g7 hm hsz
      have f5 := ev_uniq (hI _ (Ev.neg hh f4)) hE
      rw [f5] at f4
      obtain ⟨t', c', o⟩ := ih (a + (commitB n' s1 t).length) (T ++ t) (by omega) g7 hm hsz f4
      have hh2 : isHead (T ++ t) (n' : Int) s1 = true := by
       unfold isHead
       rw [ne_head] at hh
       simpa using hh
      have hn : n' = T.length + t.length := by
       have q1 := (isHead_is hh2).1
       rw [headOf_few hm, List.length_append] at q1
       simp only at q1
       omega
      refine ⟨⟨(n' : Int), s1⟩ :: t', c' + 1, ?_⟩
      rw [g5]
      exact .step g3 g4 ht (fun y hy => by have := htx y hy; omega) ⟨g3, has_head _ _ _, hh2, hn⟩ (opened_mono (fun a z h => has_cons _ _ a z h) o rfl)
     ·have f4 := impl_many b hb (by omega) L hL N S U (b.length - (a + (commitB n' s1 t).length)) (a + (commitB n' s1 t).length) (T ++ t) (Nat.le_refl _) g7 (by omega) (by rw [List.length_append]; omega) hsz
      exact absurd (ev_uniq (hI _ (Ev.neg hh f4)) hE) (by simp)
  ·have e0 : Ev (fun k => impl_StoreOk.l0 k T (a : Int) L N S b U) (decide (T = L)) := by
    refine Ev.step (fun k => by simp only [impl_StoreOk.l0]; rfl) ?_
    exact Ev.neg (by omega) (Ev.bind (impl_same_ev T L (by omega)) (Ev.now _))
   have e1 := of_decide_eq_true (ev_uniq e0 hE)
   subst e1
   rw [List.drop_of_length_le (by omega)]
   exact ⟨[], 0, opened_nil _ _⟩
theorem storeOk_conv (l : List ByteArray) (n : Int) (s : ByteArray) (b : List Int) (u : Int) (hb : InB b) (hs : ∀ x ∈ l, x.size ≤ bigB) (h : Ev (fun k => impl_StoreOk.f k l n s b u) true) :
  b.length ≤ 60000 ∧ 0 ≤ u ∧ u ≤ b.length ∧ n = (headOf l).1 ∧ s = (headOf l).2 ∧ ∃ t c, Opened t [] b l b c := by
 have lI := impl_LogOk_ev l n s hs
 have jF : ∀ r, Ev (fun k => impl_StoreOk.j0 k true l n s b u) r → r = false := fun r hr => by
  have e0 : Ev (fun k => impl_StoreOk.j0 k true l n s b u) false := by
   refine Ev.step (fun k => by simp only [impl_StoreOk.j0]; rfl) ?_
   exact Ev.pos trivial (Ev.now _)
  exact ev_uniq hr e0
 have jF0 : Ev (fun k => impl_StoreOk.j0 k true l n s b u) false := by
  refine Ev.step (fun k => by simp only [impl_StoreOk.j0]; rfl) ?_
  exact Ev.pos trivial (Ev.now _)
 by_cases h1 : logOk l n s = true
 ·by_cases h2 : (b.length : Int) > 60000
  ·have e0 : Ev (fun k => impl_StoreOk.f k l n s b u) false := by
    unfold impl_StoreOk.f
    exact Ev.bind lI (Ev.pos h1 (Ev.pos h2 jF0))
   exact absurd (ev_uniq e0 h) (by simp)
  ·by_cases h3 : 0 ≤ u ∧ u ≤ (b.length : Int)
   ·have hlo : l.length ≤ 200 ∧ n = (headOf l).1 ∧ s = (headOf l).2 := by
     unfold logOk at h1
     by_cases hc : (l.length : Int) ≤ 200
     ·rw [if_pos hc, Bool.and_eq_true] at h1
      exact ⟨by omega, eq_of_beq h1.1, bytes_ext (eq_of_beq h1.2)⟩
     ·rw [if_neg hc] at h1
      cases h1
    obtain ⟨hL, hn, hz⟩ := hlo
    obtain ⟨_, _, _, _, _, _, _, f4⟩ := replay_both b hb (by omega) l hL n s u b.length 0 [] 0 ⟨#[]⟩ (by omega) (by omega) (by simp) (by simp)
    have e0 : ∀ r, Ev (fun k => impl_StoreOk.l0 k [] (0 : Int) l n s b u) r → Ev (fun k => impl_StoreOk.f k l n s b u) r := fun r hr => by
     unfold impl_StoreOk.f
     refine Ev.bind lI (Ev.pos h1 (Ev.neg h2 (Ev.bind (Ev.const (impl_in_eq _ _ _)) ?_)))
     rw [decide_eq_true h3]
     refine Ev.step (fun k => by simp only [impl_StoreOk.j0]; rfl) ?_
     exact Ev.neg (by simp) hr
    have f5 := ev_uniq (e0 _ f4) h
    rw [f5] at f4
    obtain ⟨t, c, o⟩ := replay_conv b hb (by omega) l hL n s u b.length 0 [] (by omega) (by omega) (by simp) (by simp) f4
    rw [List.drop_zero] at o
    exact ⟨by omega, h3.1, h3.2, hn, hz, t, c, o⟩
   ·have e0 : Ev (fun k => impl_StoreOk.f k l n s b u) false := by
     unfold impl_StoreOk.f
     refine Ev.bind lI (Ev.pos h1 (Ev.neg h2 (Ev.bind (Ev.const (impl_in_eq _ _ _)) ?_)))
     rw [decide_eq_false h3]
     exact jF0
    exact absurd (ev_uniq e0 h) (by simp)
 ·have e0 : Ev (fun k => impl_StoreOk.f k l n s b u) false := by
   unfold impl_StoreOk.f
   exact Ev.bind lI (Ev.neg h1 jF0)
  exact absurd (ev_uniq e0 h) (by simp)
theorem opened_on {t : List IHead} {l : List ByteArray} {b : List Int} {L : List ByteArray} {m : List Int} {c : Nat} (o : Opened t l b L m c) : ∃ e, L = l ++ e := by
 induction o with
 | stop h => exact ⟨[], by simp⟩
 | @step l r L m c N s x hk h1 h2 hs hg o ih =>
  obtain ⟨e, he⟩ := ih
  exact ⟨x ++ e, by rw [he, List.append_assoc]⟩
theorem opened_pre {t : List IHead} {l : List ByteArray} {b : List Int} {L : List ByteArray} {m : List Int} {c : Nat} (o : Opened t l b L m c) : ∀ {b2 : List Int} {L2 : List ByteArray} {m2 : List Int} {c2 : Nat}, Opened t l (b ++ b2) L2 m2 c2 → ∃ e, L2 = L ++ e := by
 induction o with
 | stop h => exact fun o2 => opened_on o2
 | @step l r L m c N s x hk h1 h2 hs hg o ih =>
  intro b2 L2 m2 c2 o2
  rw [List.append_assoc] at o2
  generalize hb : commitB N s x ++ (r ++ b2) = bb at o2
  cases o2 with
  | stop h => exact absurd hg (h N s x (r ++ b2) hb.symm hk h1 h2 hs)
  | @step _ r' _ m' c' N' s' x' hk' h1' h2' hs' hg' o2 =>
   obtain ⟨rfl, rfl, rfl, rfl⟩ := commitB_inj hb
   exact ih o2
theorem opened_bytes {t : List IHead} {l : List ByteArray} {b : List Int} {L : List ByteArray} {m : List Int} {c : Nat} (o : Opened t l b L m c) : ∃ r, b = m ++ r := by
 induction o with
 | @stop l b h => exact ⟨b, rfl⟩
 | step hk h1 h2 hs hg o ih =>
  obtain ⟨r, hr⟩ := ih
  exact ⟨r, by rw [List.append_assoc, ← hr]⟩
theorem has_left {t t2 : List IHead} (a : Int) (z : ByteArray) (h : hasHead t a z = true) : hasHead (t ++ t2) a z = true := by
 unfold hasHead at *
 rw [List.any_append, h]
 rfl
theorem has_right {t t2 : List IHead} (a : Int) (z : ByteArray) (h : hasHead t2 a z = true) : hasHead (t ++ t2) a z = true := by
 unfold hasHead at *
 rw [List.any_append, h, Bool.or_true]
theorem opened_begins {t t2 : List IHead} {b : List Int} {n : Nat} {L l : List ByteArray} {m : List Int} {c c2 : Nat} (o : Opened t [] (b.take n) L m c) (o2 : Opened t2 [] b l b c2) : ∃ e, l = L ++ e := by
 have k1 := opened_mono (t2 := t ++ t2) (fun a z h => has_left a z h) (opened_self o) rfl
 have k2 := opened_mono (t2 := t ++ t2) (fun a z h => has_right a z h) o2 rfl
 obtain ⟨r, hr⟩ := opened_bytes o
 have hb : b = m ++ (r ++ b.drop n) := by rw [← List.append_assoc, ← hr, List.take_append_drop]
 rw [hb] at k2
 exact opened_pre k1 k2
end Go.Proofs.Ytnlndmoecljicaa.Q
end
section
namespace Go.Proofs.Ytnlndmoecljicaa.Q
open Go.RowKit Go.Proofs.Ytnlndmoecljicaa.B Go.Proofs.YtnlndmoecljicaaW.PrintWords Go.Proofs.YtnlndmoecljicaaW.PrintMore
abbrev DrawnT := List ByteArray × Int × ByteArray × List Int × Int × List IHead × Int × ByteArray × List ByteArray
def DrawnC (r : DrawnT) : Prop := SmallS r.1 r.2.2.2.1 ∧ r.2.2.2.2.2.1.length ≤ 1000 ∧ (∃ a : Nat, r.2.2.2.2.2.2.1 = (a : Int) ∧ a ≤ 9) ∧ r.2.2.2.2.2.2.2.1.size = 32 ∧ r.2.2.2.2.2.2.2.2.length ≤ 20 ∧ ∀ y ∈ r.2.2.2.2.2.2.2.2, y.size ≤ 4
theorem drawCommit_j {S : List Int} {i : Int} (h : Int) (hd : Drawer S i) (all : List ByteArray) (t : List IHead) (n m : Nat) (l : List ByteArray) (N : Int) (Z : ByteArray) (b : List Int) (u : Int) (ha : all.length ≤ 9) (hx : ∀ x ∈ all, x.size ≤ 3) (hm : m ≤ all.length) (hnm : n ≤ m) (ht : t.length ≤ 1000) (hS : SmallS l b) :
  ∃ r, Ev (fun k => spec_DrawCommit.j0 k all t (n : Int) (m : Int) S i h l N Z b u) r ∧ DrawnC r := by
 have hx4 : ∀ x ∈ all, x.size ≤ bigB := fun x hm => by have := hx x hm; unfold bigB; omega
 have hl : (all.take m).length = m := by rw [List.length_take]; omega
 have hH := spec_HeadOf_ev (all.take m) (fun x hq => hx4 x (List.mem_of_mem_take hq))
 rw [headOf_few (by omega), hl] at hH
 have hR := root_32 (all.take m)
 generalize rootBy leafH (all.take m) = R at hH hR
 have hX : ([] ++ (all.take m).drop n).length = m - n := by rw [List.nil_append, List.length_drop, hl]
 have hXs : ∀ y ∈ [] ++ (all.take m).drop n, y.size ≤ 4 := fun y hy => by
  rw [List.nil_append] at hy
  have := hx y (List.mem_of_mem_take (List.mem_of_mem_drop hy))
  omega
 suffices w : ∃ r, Ev (fun k => ((spec_l1Below.f S i h 10).bind fun bt45 => (if bt45.1 = 0 then ((spec_l12Any.f k S bt45.2.1 bt45.2.2).bind fun bt48 => (some (bt48.1, bt48.2.1, bt48.2.2.1, bt48.2.2.2.1, bt48.2.2.2.2.1, t, (m : Int), R, [] ++ (all.take m).drop n))) else (if bt45.1 = 1 then (if ([] ++ (all.take m).drop n).length < 8796093022208 then (some (l, N, Z, b, u, t, (m : Int), R, ([] ++ (all.take m).drop n ++ [(⟨#[109, 111, 114, 101]⟩ : ByteArray)]))) else (none)) else (if bt45.1 = 2 then (if (([] ++ (all.take m).drop n).length : Int) > 0 then (if 0 < (([] ++ (all.take m).drop n).length : Int) then (some (l, N, Z, b, u, t, (m : Int), R, (([] ++ (all.take m).drop n).set (0 : Int).toNat (⟨#[98, 101, 110, 116]⟩ : ByteArray)))) else (none)) else (some (l, N, Z, b, u, t, (m : Int), R, [] ++ (all.take m).drop n))) else (some (l, N, Z, b, u, t, (m : Int), R, [] ++ (all.take m).drop n))))) : Option DrawnT)) r ∧ DrawnC r by
  obtain ⟨r, e, hr⟩ := w
  refine ⟨r, ?_, hr⟩
  refine Ev.step (fun k => by simp only [spec_DrawCommit.j0]; rfl) ?_
  refine Ev.pos (by omega) (Ev.pos (by omega) (Ev.bind hH (Ev.bind (Ev.now _) (Ev.pos (by omega) (Ev.pos (by omega) (Ev.bind (Ev.now _) (Ev.pos ?_ (Ev.bind (Ev.now _) ?_))))))))
  ·simp only [List.length_nil, List.length_drop, List.length_take, Int.toNat_natCast]
   omega
  ·simp only [Int.toNat_natCast]
   exact e
 generalize [] ++ (all.take m).drop n = X at *
 obtain ⟨c, i2, h2, e2, c0, c1, d2⟩ := l1Below_ok h 10 hd (by decide) (by decide)
 refine exb (Ev.const e2) ?_
 simp only
 by_cases k0 : c = 0
 ·obtain ⟨⟨b1, b2, b3, b4, b5, b6, b7⟩, e3, s3, d3⟩ := l12Any_ev h2 d2
  exact exp_ k0 (exb e3 ⟨_, Ev.now _, s3, ht, ⟨m, rfl, by omega⟩, hR, by simp only; omega, hXs⟩)
 refine exn_ k0 ?_
 by_cases k1 : c = 1
 ·refine exp_ k1 (exp_ (by omega) ⟨_, Ev.now _, hS, ht, ⟨m, rfl, by omega⟩, hR, by simp only [List.length_append, List.length_singleton]; omega, fun y hy => ?_⟩)
  rcases List.mem_append.1 hy with hy | hy
  ·exact hXs y hy
  ·rw [List.mem_singleton.1 hy]
   decide
 refine exn_ k1 ?_
 by_cases k2 : c = 2
 ·refine exp_ k2 ?_
  by_cases k3 : (X.length : Int) > 0
  ·refine exp_ k3 (exp_ (by omega) ⟨_, Ev.now _, hS, ht, ⟨m, rfl, by omega⟩, hR, by simp only [List.length_set]; omega, fun y hy => ?_⟩)
   rcases List.mem_or_eq_of_mem_set hy with hy | hy
   ·exact hXs y hy
   ·rw [hy]
    decide
  ·exact exn_ k3 ⟨_, Ev.now _, hS, ht, ⟨m, rfl, by omega⟩, hR, by simp only; omega, hXs⟩
 ·exact exn_ k2 ⟨_, Ev.now _, hS, ht, ⟨m, rfl, by omega⟩, hR, by simp only; omega, hXs⟩
theorem drawCommit_ev (l0 : List Int) (hl : l0.length ≤ 1048576) : ∃ r, Ev (fun k => spec_DrawCommit.f k l0) r ∧ DrawnC r := by
 obtain ⟨h, hN⟩ := l1New_ev l0 hl
 obtain ⟨l, b, u, all, t, i1, h1, e1, hS, d1, ha, ha1, hx, ht⟩ := l12Draw_ev h (Drawer.new hl)
 have hs := stored_small hS ha hx
 have hll : l.length ≤ all.length := by
  obtain ⟨n, hn⟩ := hS.begins
  rw [hn, List.length_take]
  omega
 generalize (headOf l).1 = n at e1
 generalize (headOf l).2 = z at e1
 unfold spec_DrawCommit.f
 refine exb hN (exb e1 ?_)
 simp only
 by_cases hc : (l.length : Int) < (all.length : Int)
 ·refine exp_ hc ?_
  rw [sub_w (show l.length < all.length by omega) (by omega)]
  obtain ⟨y, i2, h2, e2, y0, y1, d2⟩ := l1Below_ok h1 ((all.length - l.length : Nat) : Int) d1 (by omega) (by omega)
  obtain ⟨y, rfl⟩ := Int.eq_ofNat_of_zero_le y0
  refine exb (Ev.const e2) ?_
  simp only
  rw [add_w (show l.length + 1 + y ≤ 20 by omega)]
  exact drawCommit_j h2 d2 all t l.length (l.length + 1 + y) l n z b u ha hx (by omega) (by omega) ht hs
 ·exact exn_ hc (drawCommit_j h1 d1 all t l.length all.length l n z b u ha hx (by omega) (by omega) ht hs)
theorem commit_short (a : Nat) {z : ByteArray} {x : List ByteArray} (ha : a ≤ 9) (hz : z.size = 32) (hl : x.length ≤ 20) (hx : ∀ y ∈ x, y.size ≤ 4) : (commitB a z x).length ≤ 1000 := by
 have w1 := commitB_length a z x
 have ht := few_total hx
 have hm := manyB_length x (fun y hy => by have := hx y hy; omega)
 have n0 := num_five (show a ≤ 1000000000 by omega)
 have n1 := num_five (show x.length ≤ 1000000000 by omega)
 have n2 := num_five (show z.size ≤ 1000000000 by omega)
 have hb : (bodyB a z x).length ≤ 500 := by
  unfold bodyB textsB
  rw [List.length_append, List.length_append, List.length_append, textB_length]
  omega
 have n3 := num_five (show (bodyB a z x).length ≤ 1000000000 by omega)
 omega
def commitOf (t : List IHead) (l : List ByteArray) (b : List Int) (u : Int) (a : Nat) (z : ByteArray) (x : List ByteArray) : List ByteArray × Int × ByteArray × List Int × Int × Int :=
 if (extOf t l (headOf l).1 (headOf l).2 (a : Int) z x).2.2.2 = 0 then ((extOf t l (headOf l).1 (headOf l).2 (a : Int) z x).1, (extOf t l (headOf l).1 (headOf l).2 (a : Int) z x).2.1, (extOf t l (headOf l).1 (headOf l).2 (a : Int) z x).2.2.1, b ++ commitB a z x, u, 0) else (l, (headOf l).1, (headOf l).2, b, u, (extOf t l (headOf l).1 (headOf l).2 (a : Int) z x).2.2.2)
theorem ext_zero {t : List IHead} {l : List ByteArray} {n : Int} {s : ByteArray} {a : Nat} {z : ByteArray} {x : List ByteArray} (h : (extOf t l n s (a : Int) z x).2.2.2 = 0) : x.length ≠ 0 ∧ Good t l a z x := by
 unfold extOf at h
 by_cases h1 : (headOk (a : Int) z && ((a : Int) == ((l.length + x.length : Nat) : Int))) = true
 ·rw [if_pos h1] at h
  by_cases h2 : hasHead t (a : Int) z = true
  ·rw [if_pos h2] at h
   by_cases h3 : x.length = 0
   ·rw [if_pos h3] at h
    exact absurd h (by simp)
   ·rw [if_neg h3] at h
    by_cases h4 : isHead (l ++ x) (a : Int) z = true
    ·rw [Bool.and_eq_true] at h1
     have := eq_of_beq h1.2
     exact ⟨h3, h1.1, h2, h4, by omega⟩
    ·rw [if_neg h4] at h
     exact absurd h (by simp)
  ·rw [if_neg h2] at h
   exact absurd h (by simp)
 ·rw [if_neg h1] at h
  exact absurd h (by simp)
theorem commit_both (t : List IHead) (ht : t.length ≤ 1000) (l : List ByteArray) (n : Int) (s : ByteArray) (b : List Int) (u : Int) (hS : SmallS l b) (a : Nat) (z : ByteArray) (x : List ByteArray) (ha : a ≤ 9) (hz : z.size = 32) (hx1 : x.length ≤ 20) (hx : ∀ y ∈ x, y.size ≤ 4) :
  (Ev (fun k => impl_Commit.f k l n s b u t (a : Int) z x) (l, n, s, b, u, 1) ∧ Ev (fun k => spec_Commit.f k l n s b u t (a : Int) z x) (l, n, s, b, u, 1)) ∨
  (Ev (fun k => impl_StoreOk.f k l n s b u) true ∧ n = (headOf l).1 ∧ s = (headOf l).2 ∧ Ev (fun k => impl_Commit.f k l n s b u t (a : Int) z x) (commitOf t l b u a z x) ∧ Ev (fun k => spec_Commit.f k l n s b u t (a : Int) z x) (commitOf t l b u a z x)) := by
 obtain ⟨s1, s2, s3, s4⟩ := hS
 obtain ⟨q, q1, q2⟩ := storeOk_both l n s b u s3 (by omega) s2
 have c1 := impl_copyStore_eq l n s b u (by omega) (by omega)
 have c2 := spec_l12Copy_eq l n s b u (by omega) (by omega)
 have hsm := commit_short a ha hz hx1 hx
 have hxb : ∀ y ∈ x, y.size ≤ bigB := fun y hy => by have := hx y hy; unfold bigB; omega
 have hxm : ∀ y ∈ x, y.size ≤ 1000000000 := fun y hy => by have := hx y hy; omega
 have htt := few_total hx
 cases q with
 | false =>
  left
  refine ⟨?_, ?_⟩
  ·unfold impl_Commit.f
   rw [c1]
   simp only [Option.bind_some]
   exact Ev.bind q2 (Ev.neg (by simp) (Ev.now _))
  ·unfold spec_Commit.f
   refine Ev.bind q1 (Ev.neg (by simp) (Ev.step (fun k => by simp only [spec_Commit.j0]; rfl) (Ev.pos trivial ?_)))
   rw [c2]
   exact Ev.now _
 | true =>
  right
  obtain ⟨_, _, _, rfl, rfl, t2, k2, o2⟩ := storeOk_conv l n s b u s3 s2 q2
  refine ⟨q2, rfl, rfl, ?_, ?_⟩
  ·have hE := impl_extend_ev t l (headOf l).1 (headOf l).2 (a : Int) z x (by omega) (sizes_app s2 hxb) (by omega)
   have hP := PutCommit_val (a : Int) z x (by omega) (by omega) hxm
   have hC : Ev (fun k => impl_Store_commit.f k l (headOf l).1 (headOf l).2 b u t (a : Int) z x) ((commitOf t l b u a z x).1, (commitOf t l b u a z x).2.1, (commitOf t l b u a z x).2.2.1, (commitOf t l b u a z x).2.2.2.1, (commitOf t l b u a z x).2.2.2.2.2) := by
    unfold impl_Store_commit.f commitOf
    by_cases hc : (extOf t l (headOf l).1 (headOf l).2 (a : Int) z x).2.2.2 = 0
    ·obtain ⟨g0, g1⟩ := ext_zero hc
     rw [if_pos ⟨g1.1, by omega, by omega⟩, Int.toNat_natCast] at hP
     rw [if_pos hc]
     refine Ev.bind hP (Ev.neg ?_ (Ev.bind hE (Ev.pos hc (Ev.pos (by omega) (Ev.now _)))))
     rw [w64 (by omega) (by omega)]
     omega
    ·rw [if_neg hc]
     refine Ev.bind hP (Ev.neg ?_ (Ev.bind hE (Ev.neg hc (Ev.now _))))
     have : (if headOk (a : Int) z = true ∧ 1 ≤ x.length ∧ x.length ≤ 200 then commitB (a : Int).toNat z x else []).length ≤ 1000 := by
      split
      ·rw [Int.toNat_natCast]
       exact hsm
      ·simp
     rw [w64 (by omega) (by omega)]
     omega
   unfold impl_Commit.f
   rw [c1]
   simp only [Option.bind_some]
   refine Ev.bind q2 (Ev.pos rfl (Ev.bind hC (Ev.one (Ev.now _) ?_)))
   unfold commitOf
   split <;> rfl
  ·have hE := spec_Extend_ev t l (headOf l).1 (headOf l).2 (a : Int) z x (by omega) (sizes_app s2 hxb) (by omega)
   unfold extendOf at hE
   rw [if_pos (logOk_head (by omega))] at hE
   have hP := l12Put_val a z x (by omega) (by omega) (by omega) (by omega) hxm
   have hC : Ev (fun k => spec_l12Commit.f k l (headOf l).1 (headOf l).2 b u t (a : Int) z x) (commitOf t l b u a z x) := by
    unfold spec_l12Commit.f commitOf
    rw [c2]
    simp only [Option.bind_some]
    by_cases hc : (extOf t l (headOf l).1 (headOf l).2 (a : Int) z x).2.2.2 = 0
    ·rw [if_pos hc]
     exact Ev.bind hE (Ev.pos hc (Ev.bind hP (Ev.pos (by omega) (Ev.now _))))
    ·rw [if_neg hc]
     exact Ev.bind hE (Ev.neg hc (Ev.now _))
   unfold spec_Commit.f
   refine Ev.bind q1 (Ev.pos rfl (Ev.bind hP ?_))
   rw [w64 (by omega) (by omega), decide_eq_false (by omega)]
   refine Ev.step (fun k => by simp only [spec_Commit.j0]; rfl) (Ev.neg (by simp) (Ev.bind hC (Ev.now _)))
theorem opened_none {t : List IHead} {l : List ByteArray} {m : List Int} {c : Nat} (o : Opened t [] [] l m c) : l = [] := by
 generalize hb : ([] : List Int) = b at o
 cases o with
 | stop h => rfl
 | @step _ r _ m c N s x hk h1 h2 hs hg o =>
  have := commit_pos N s x
  have e := congrArg List.length hb
  rw [List.length_append, List.length_nil] at e
  omega
theorem opened_first {t : List IHead} {a : Nat} {z : ByteArray} {x : List ByteArray} {L : List ByteArray} {m : List Int} {c : Nat} (o : Opened t [] (commitB a z x) L m c) (hk : headOk (a : Int) z = true) (h1 : 1 ≤ x.length) (h2 : x.length ≤ 200) (hs : ∀ y ∈ x, y.size ≤ 1000000000) (hg : Good t [] a z x) : 0 < c := by
 generalize hb : commitB a z x = b at o
 cases o with
 | stop h => exact absurd hg (h a z x [] (by rw [List.append_nil]; exact hb.symm) hk h1 h2 hs)
 | step hk h1 h2 hs hg o => omega
theorem pure_FnStored : laws_FnStored.Pure := by
 intro l0 g0
 refine Ev.rounds (g := fun k => laws_FnStored.f k l0) ?_
 unfold laws_FnStored.f laws_big.f
 by_cases hbig : (l0.length : Int) > 1048576
 ·exact Ev.pos (decide_eq_true hbig) (Ev.now _)
 ·refine Ev.neg (by rw [decide_eq_true_eq]; exact hbig) ?_
  obtain ⟨⟨l, n, s, b, u, t, a', z, x⟩, hD, hS, ht, ⟨a, ha', ha⟩, hz, hx1, hx⟩ := drawCommit_ev l0 (by omega)
  simp only at hS ht ha' hz hx1 hx
  subst ha'
  have hxm : ∀ y ∈ x, y.size ≤ 1000000000 := fun y hy => by have := hx y hy; omega
  have hsame := laws_same_ev l l (by have := hS.1; omega)
  rw [decide_eq_true rfl] at hsame
  have kept_ : ∀ (c : Int) (n2 u2 : Int) (s2 : ByteArray), Ev (fun k => laws_FnStored.j0 k t c c true l n s b u (a : Int) z l n2 s2 b u2) true := fun c n2 u2 s2 => by
   refine Ev.step (fun k => by simp only [laws_FnStored.j0]; rfl) ?_
   exact Ev.pos trivial (Ev.pos trivial (Ev.pos trivial (Ev.bind hsame (Ev.now _))))
  rcases commit_both t ht l n s b u hS a z x ha hz hx1 hx with ⟨e1, e2⟩ | ⟨hok, rfl, rfl, e1, e2⟩
  ·exact Ev.bind hD (Ev.bind e1 (Ev.bind e2 (Ev.pos rfl (kept_ 1 _ _ _))))
  ·obtain ⟨s1, s2, s3, s4⟩ := hS
   by_cases hc : (extOf t l (headOf l).1 (headOf l).2 (a : Int) z x).2.2.2 = 0
   ·obtain ⟨g0, g1⟩ := ext_zero hc
    unfold commitOf at e1 e2
    rw [if_pos hc, ext_good (by omega) g1] at e1 e2
    obtain ⟨_, u0, u1, _, _, t2, c2, o2⟩ := storeOk_conv l (headOf l).1 (headOf l).2 b u s3 s2 hok
    have hsm := commit_short a ha hz hx1 hx
    have hpos := commit_pos a z x
    have g2 : Good (⟨(a : Int), z⟩ :: t2) l a z x := ⟨g1.1, has_head _ _ _, g1.2.2.1, g1.2.2.2⟩
    have o3 := opened_more (opened_mono (fun y w h => has_cons ⟨(a : Int), z⟩ t2 y w h) o2 rfl) rfl (by omega) (by omega) hxm g2
    obtain ⟨i1, i2⟩ := isHead_is g1.2.2.1
    have hB : InB (b ++ commitB a z x) := inB_app s3 (commitB_inB _ _ _)
    have hl2 : (b ++ commitB a z x).length ≤ 60000 := by rw [List.length_append]; omega
    have hst := storeOk_opened _ (b ++ commitB a z x) hB hl2 o3 u u0 (by rw [List.length_append]; omega)
    rw [← i1, ← i2] at hst
    obtain ⟨L, m, q, o4⟩ := opened_some ([(⟨(a : Int), z⟩ : IHead)] ++ t) (firstB (b ++ commitB a z x)).length [] (firstB (b ++ commitB a z x)) (Nat.le_refl _)
    obtain ⟨f2, f3, _, _⟩ := openStore_evI ([(⟨(a : Int), z⟩ : IHead)] ++ t) (by simp; omega) (b ++ commitB a z x) hB o4
    have hfirst : firstB (b ++ commitB a z x) = (b ++ commitB a z x).take (b ++ commitB a z x).length := by
     unfold firstB
     rw [List.take_of_length_le hl2, List.take_length]
    rw [hfirst] at o4
    obtain ⟨e, he⟩ := opened_begins o4 o3
    have hbg := begins_ev L e (by rw [← he, List.length_append]; omega)
    rw [← he] at hbg
    refine Ev.bind hD (Ev.bind e1 (Ev.bind e2 (Ev.pos rfl ?_)))
    refine Ev.step (fun k => by simp only [laws_FnStored.j0]; rfl) ?_
    refine Ev.neg (by simp) (Ev.bind (Ev.now _) (Ev.pos (by simp; omega) (Ev.bind f2 (Ev.bind hst (Ev.pos rfl (Ev.pos (by simp) (Ev.pos (by simp only [List.length_append]; omega) ?_)))))))
    by_cases hq : (q : Int) > 0
    ·exact Ev.pos hq (Ev.bind hbg (Ev.now _))
    ·refine Ev.neg hq (Ev.pos ?_ (Ev.bind hbg (Ev.now _)))
     rcases Nat.eq_zero_or_pos b.length with hb0 | hb0
     ·have hbn := List.length_eq_zero_iff.1 hb0
      subst hbn
      have hln := opened_none o2
      subst hln
      rw [List.nil_append, List.take_length] at o4
      have := opened_first o4 g1.1 (by omega) (by omega) hxm ⟨g1.1, has_head _ _ _, g1.2.2.1, g1.2.2.2⟩
      omega
     ·omega
   ·unfold commitOf at e1 e2
    rw [if_neg hc] at e1 e2
    generalize (extOf t l (headOf l).1 (headOf l).2 (a : Int) z x).2.2.2 = c at *
    have hb1 : (c != 0) = true := bne_iff_ne.mpr hc
    refine Ev.bind hD (Ev.bind e1 (Ev.bind e2 (Ev.pos rfl ?_)))
    simp only [hb1]
    exact kept_ c _ _ _
end Go.Proofs.Ytnlndmoecljicaa.Q
namespace Go.Proofs.Ytnlndmoecljicaa
theorem fnStored_holds : Rows.FnStoredSaid := Q.FnStored_row Q.pure_FnStored
end Go.Proofs.Ytnlndmoecljicaa
end
