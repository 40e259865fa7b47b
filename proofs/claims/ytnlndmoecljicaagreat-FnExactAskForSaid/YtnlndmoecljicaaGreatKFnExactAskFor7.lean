-- Joined and shortened by a program of this session (wip/tools/shakecopy.py): the words of the print, texts of pp.sh and of mine.
import Derived.Test.YtnlndmoecljicaaGreatKFnExactAskFor6
section
namespace Go.Proofs.YtnlndmoecljicaaGreat.Q
open Go.RowKit Go.Proofs.YtnlndmoecljicaaGreatW.PrintWords Go.Proofs.YtnlndmoecljicaaGreatW.PrintLast Go.Proofs.YtnlndmoecljicaaGreatW.PrintMore
attribute [local go_sem] max2_int min2_int max_two min_two max_three min_three max_four min_four   -- for this text's walks alone
set_option linter.unusedVariables false
set_option linter.unusedSimpArgs false
def spec_l8Same.l0 : Nat → List ByteArray → List ByteArray → Int → Option (Bool)
 | 0, _, _, _ => none
 | k + 1, x0, x1, x5 => if x5 < (x0.length : Int) then (if 0 ≤ x5 then (if x5 < (x1.length : Int) then (if (rdOf ByteArray.empty x0 x5).toList = (rdOf ByteArray.empty x1 x5).toList then (spec_l8Same.l0 k x0 x1 (wrap64 (x5 + 1))) else (some false)) else (none)) else (none)) else (some true)
def spec_l8Same.f (k : Nat) (l0 : List ByteArray) (l1 : List ByteArray) : Option (Bool) := if (l0.length : Int) = (l1.length : Int) then (spec_l8Same.l0 k l0 l1 0) else (some false)
set_option maxHeartbeats 8000000 in
set_option maxRecDepth 100000 in
theorem spec_l8Same.calls (k : Nat) (A0 : Option Addr) (c0 : Nat) (l0 : List ByteArray) (A1 : Option Addr) (c1 : Nat) (l1 : List ByteArray) (r : Bool) (w : World) (hr0 : Kd.C Kd.string w A0 l0.length l0) (hc0 : l0.length ≤ c0) (hr1 : Kd.C Kd.string w A1 l1.length l1) (hc1 : l1.length ≤ c1) (h : spec_l8Same.f k l0 l1 = some r) :
  Calls Tryz.prog 109 #[.slice A0 l0.length c0, .slice A1 l1.length c1] w fun e w' => e = .returned (.bool r) ∧ Drawn0 w w' := by
 have HR0 := Aside0.mk hr0
 have HC0 := Aside0.mk hc0
 clear hr0 hc0
 have HR1 := Aside0.mk hr1
 have HC1 := Aside0.mk hc1
 clear hr1 hc1
 have H : (if (l0.length : Int) = (l1.length : Int) then (spec_l8Same.l0 k l0 l1 0) else (some false)) = some r := h
 clear h
 replace H := it_ H; obtain ⟨c3, H⟩ | ⟨c3, H⟩ := H
 ·have c3b0 : ((l0.length : Int) == (l1.length : Int)) = true := beq_iff_eq.mpr c3
  have c3b1 : ((l0.length : Int) != (l1.length : Int)) = false := bne_eq_false_iff_eq.mpr c3
  have c3b2 : (l0.length == l1.length) = true := by first | simpa using c3 | (simp at c3 ⊢; omega)
  clear c3
  have H' := Aside0.mk H
  clear H
  go_enter Tryz.func109, Tryz.ntmps109
  go_wp2
  repeat (go_quiet (fail); try go_wp2)
  go_loopg [5] k (fun kq v5 w' => ∃ (x5_1 : Int), v5 = .int .i64 x5_1 ∧ Aside0 (spec_l8Same.l0 kq l0 l1 x5_1 = some r) ∧ Aside0 (kq ≤ k) ∧ Drawn0 w w')
  case atStart => exact ⟨(0), e1_, H', ⟨Nat.le_refl _⟩, dw_⟩
  case round =>
   clear H'
   try clear c3
   try clear c3b0
   try clear c3b1
   try clear c3b2
   obtain ⟨x5_1, rfl, HA, HK1, ⟨m1, rfl⟩⟩ := hrel
   cases gk with
   | zero => exact absurd HA.out (by simp [spec_l8Same.l0])
   | succ k1 =>
    have H := HA.out
    clear HA
    simp only [spec_l8Same.l0] at H
    replace H := itd_ H; obtain ⟨c4b0, H⟩ | ⟨c4b0, H⟩ := H
    ·replace H := ipd_ H; obtain ⟨c5b0, H⟩ := H
     replace H := ipd_ H; obtain ⟨c6b0, H⟩ := H
     replace H := it_ H; obtain ⟨c7, H⟩ | ⟨c7, H⟩ := H
     ·have c7b0 : ((rdOf ByteArray.empty l0 x5_1).toList == (rdOf ByteArray.empty l1 x5_1).toList) = true := beq_iff_eq.mpr c7
      have c7b1 : ((rdOf ByteArray.empty l0 x5_1).toList != (rdOf ByteArray.empty l1 x5_1).toList) = false := bne_eq_false_iff_eq.mpr c7
      clear c7
      have H' := Aside0.mk H
      clear H
      have p601 : 0 ≤ (x5_1 : Int) := of_decide_eq_true as_
      have q601 : x5_1 < (l0.length : Int) := of_decide_eq_true as_
      obtain ⟨ad601, e601, hx601_0⟩ := Kd.at_string HR0.out x5_1 p601 q601
      cases e601
      replace p601 := eq_true p601
      replace q601 := eq_true q601
      have p602 : 0 ≤ (x5_1 : Int) := of_decide_eq_true as_
      have q602 : x5_1 < (l1.length : Int) := of_decide_eq_true as_
      obtain ⟨ad602, e602, hx602_0⟩ := Kd.at_string HR1.out x5_1 p602 q602
      cases e602
      replace p602 := eq_true p602
      replace q602 := eq_true q602
      go_wp2
      repeat (go_quiet (fail); try go_wp2)
      go_roundg k1
      case measure => have := HK1.out; omega
      case rel => exact ⟨(wrap64 (x5_1 + 1)), e1_, H', ⟨by have := HK1.out; omega⟩, dw_⟩
     ·have c7b0 : ((rdOf ByteArray.empty l0 x5_1).toList == (rdOf ByteArray.empty l1 x5_1).toList) = false := beq_eq_false_iff_ne.mpr c7
      have c7b1 : ((rdOf ByteArray.empty l0 x5_1).toList != (rdOf ByteArray.empty l1 x5_1).toList) = true := bne_iff_ne.mpr c7
      obtain rfl := Option.some.inj H
      have p601 : 0 ≤ (x5_1 : Int) := of_decide_eq_true as_
      have q601 : x5_1 < (l0.length : Int) := of_decide_eq_true as_
      obtain ⟨ad601, e601, hx601_0⟩ := Kd.at_string HR0.out x5_1 p601 q601
      cases e601
      replace p601 := eq_true p601
      replace q601 := eq_true q601
      have p602 : 0 ≤ (x5_1 : Int) := of_decide_eq_true as_
      have q602 : x5_1 < (l1.length : Int) := of_decide_eq_true as_
      obtain ⟨ad602, e602, hx602_0⟩ := Kd.at_string HR1.out x5_1 p602 q602
      cases e602
      replace p602 := eq_true p602
      replace q602 := eq_true q602
      go_wp2
      repeat (go_quiet (fail); try go_wp2)
      go_ret
      exact ⟨e1_, dw_⟩
    ·obtain rfl := Option.some.inj H
     go_wp2
     repeat (go_quiet (fail); try go_wp2)
     go_ret
     exact ⟨e1_, dw_⟩
 ·have c3b0 : ((l0.length : Int) == (l1.length : Int)) = false := beq_eq_false_iff_ne.mpr c3
  have c3b1 : ((l0.length : Int) != (l1.length : Int)) = true := bne_iff_ne.mpr c3
  have c3b2 : (l0.length == l1.length) = false := by first | simpa using c3 | (simp at c3 ⊢; omega)
  obtain rfl := Option.some.inj H
  go_enter Tryz.func109, Tryz.ntmps109
  go_wp2
  repeat (go_quiet (fail); try go_wp2)
  go_ret
  exact ⟨e1_, dw_⟩
def slices_Equal_string_string.l0 : Nat → List ByteArray → List ByteArray → Int → Int → Option (Bool)
 | 0, _, _, _, _ => none
 | k + 1, x0, x1, x12, x13 => if x13 < x12 then (if 0 ≤ x13 then (if x13 < (x0.length : Int) then (if x13 < (x1.length : Int) then (if (rdOf ByteArray.empty x0 x13).toList = (rdOf ByteArray.empty x1 x13).toList then (slices_Equal_string_string.l0 k x0 x1 x12 (wrap64 (x13 + 1))) else (some false)) else (none)) else (none)) else (none)) else (some true)
def slices_Equal_string_string.f (k : Nat) (l0 : List ByteArray) (l1 : List ByteArray) : Option (Bool) := if (l0.length : Int) = (l1.length : Int) then (slices_Equal_string_string.l0 k l0 l1 (l0.length : Int) 0) else (some false)
set_option maxHeartbeats 8000000 in
set_option maxRecDepth 100000 in
theorem slices_Equal_string_string.calls (k : Nat) (A0 : Option Addr) (c0 : Nat) (l0 : List ByteArray) (A1 : Option Addr) (c1 : Nat) (l1 : List ByteArray) (r : Bool) (w : World) (hr0 : Kd.C Kd.string w A0 l0.length l0) (hc0 : l0.length ≤ c0) (hr1 : Kd.C Kd.string w A1 l1.length l1) (hc1 : l1.length ≤ c1) (h : slices_Equal_string_string.f k l0 l1 = some r) :
  Calls Tryz.prog 66 #[.slice A0 l0.length c0, .slice A1 l1.length c1] w fun e w' => e = .returned (.bool r) ∧ Drawn0 w w' := by
 have HR0 := Aside0.mk hr0
 have HC0 := Aside0.mk hc0
 clear hr0 hc0
 have HR1 := Aside0.mk hr1
 have HC1 := Aside0.mk hc1
 clear hr1 hc1
 have H : (if (l0.length : Int) = (l1.length : Int) then (slices_Equal_string_string.l0 k l0 l1 (l0.length : Int) 0) else (some false)) = some r := h
 clear h
 replace H := it_ H; obtain ⟨c3, H⟩ | ⟨c3, H⟩ := H
 ·have c3b0 : ((l0.length : Int) == (l1.length : Int)) = true := beq_iff_eq.mpr c3
  have c3b1 : ((l0.length : Int) != (l1.length : Int)) = false := bne_eq_false_iff_eq.mpr c3
  have c3b2 : (l0.length == l1.length) = true := by first | simpa using c3 | (simp at c3 ⊢; omega)
  clear c3
  have H' := Aside0.mk H
  clear H
  go_enter Tryz.func66, Tryz.ntmps66
  go_wp2
  repeat (go_quiet (fail); try go_wp2)
  go_loopg [13] k (fun kq v13 w' => ∃ (x13_1 : Int), v13 = .int .i64 x13_1 ∧ Aside0 (slices_Equal_string_string.l0 kq l0 l1 (l0.length : Int) x13_1 = some r) ∧ Aside0 (kq ≤ k) ∧ Drawn0 w w')
  case atStart => exact ⟨(0), e1_, H', ⟨Nat.le_refl _⟩, dw_⟩
  case round =>
   clear H'
   try clear c3
   try clear c3b0
   try clear c3b1
   try clear c3b2
   obtain ⟨x13_1, rfl, HA, HK1, ⟨m1, rfl⟩⟩ := hrel
   cases gk with
   | zero => exact absurd HA.out (by simp [slices_Equal_string_string.l0])
   | succ k1 =>
    have H := HA.out
    clear HA
    simp only [slices_Equal_string_string.l0] at H
    replace H := itd_ H; obtain ⟨c4b0, H⟩ | ⟨c4b0, H⟩ := H
    ·replace H := ipd_ H; obtain ⟨c5b0, H⟩ := H
     replace H := ipd_ H; obtain ⟨c6b0, H⟩ := H
     replace H := ipd_ H; obtain ⟨c7b0, H⟩ := H
     replace H := it_ H; obtain ⟨c8, H⟩ | ⟨c8, H⟩ := H
     ·have c8b0 : ((rdOf ByteArray.empty l0 x13_1).toList == (rdOf ByteArray.empty l1 x13_1).toList) = true := beq_iff_eq.mpr c8
      have c8b1 : ((rdOf ByteArray.empty l0 x13_1).toList != (rdOf ByteArray.empty l1 x13_1).toList) = false := bne_eq_false_iff_eq.mpr c8
      clear c8
      have H' := Aside0.mk H
      clear H
      have p601 : 0 ≤ (x13_1 : Int) := of_decide_eq_true as_
      have q601 : x13_1 < (l0.length : Int) := of_decide_eq_true as_
      obtain ⟨ad601, e601, hx601_0⟩ := Kd.at_string HR0.out x13_1 p601 q601
      cases e601
      replace p601 := eq_true p601
      replace q601 := eq_true q601
      have p602 : 0 ≤ (x13_1 : Int) := of_decide_eq_true as_
      have q602 : x13_1 < (l1.length : Int) := of_decide_eq_true as_
      obtain ⟨ad602, e602, hx602_0⟩ := Kd.at_string HR1.out x13_1 p602 q602
      cases e602
      replace p602 := eq_true p602
      replace q602 := eq_true q602
      go_wp2
      repeat (go_quiet (fail); try go_wp2)
      go_roundg k1
      case measure => have := HK1.out; omega
      case rel => exact ⟨(wrap64 (x13_1 + 1)), e1_, H', ⟨by have := HK1.out; omega⟩, dw_⟩
     ·have c8b0 : ((rdOf ByteArray.empty l0 x13_1).toList == (rdOf ByteArray.empty l1 x13_1).toList) = false := beq_eq_false_iff_ne.mpr c8
      have c8b1 : ((rdOf ByteArray.empty l0 x13_1).toList != (rdOf ByteArray.empty l1 x13_1).toList) = true := bne_iff_ne.mpr c8
      obtain rfl := Option.some.inj H
      have p601 : 0 ≤ (x13_1 : Int) := of_decide_eq_true as_
      have q601 : x13_1 < (l0.length : Int) := of_decide_eq_true as_
      obtain ⟨ad601, e601, hx601_0⟩ := Kd.at_string HR0.out x13_1 p601 q601
      cases e601
      replace p601 := eq_true p601
      replace q601 := eq_true q601
      have p602 : 0 ≤ (x13_1 : Int) := of_decide_eq_true as_
      have q602 : x13_1 < (l1.length : Int) := of_decide_eq_true as_
      obtain ⟨ad602, e602, hx602_0⟩ := Kd.at_string HR1.out x13_1 p602 q602
      cases e602
      replace p602 := eq_true p602
      replace q602 := eq_true q602
      go_wp2
      repeat (go_quiet (fail); try go_wp2)
      go_ret
      exact ⟨e1_, dw_⟩
    ·obtain rfl := Option.some.inj H
     go_wp2
     repeat (go_quiet (fail); try go_wp2)
     go_ret
     exact ⟨e1_, dw_⟩
 ·have c3b0 : ((l0.length : Int) == (l1.length : Int)) = false := beq_eq_false_iff_ne.mpr c3
  have c3b1 : ((l0.length : Int) != (l1.length : Int)) = true := bne_iff_ne.mpr c3
  have c3b2 : (l0.length == l1.length) = false := by first | simpa using c3 | (simp at c3 ⊢; omega)
  obtain rfl := Option.some.inj H
  go_enter Tryz.func66, Tryz.ntmps66
  go_wp2
  repeat (go_quiet (fail); try go_wp2)
  go_ret
  exact ⟨e1_, dw_⟩
end Go.Proofs.YtnlndmoecljicaaGreat.Q
end
section
namespace Go.Proofs.YtnlndmoecljicaaGreat.Q
open Go.RowKit Go.Proofs.YtnlndmoecljicaaGreat.B Go.Proofs.YtnlndmoecljicaaGreatW.PrintWords
set_option linter.unusedVariables false
set_option linter.unusedSimpArgs false
theorem nextC {i n : Nat} (h : i < n) (hn : n ≤ 9223372036854775807) : wrap64 ((i : Int) + 1) = ((i + 1 : Nat) : Int) := by
 rw [w64 (by omega) (by omega)]
 omega
theorem spec_same_ev (a b : List ByteArray) (ha : a.length ≤ 9223372036854775807) : Ev (fun k => spec_l8Same.f k a b) (decide (a = b)) := by
 unfold spec_l8Same.f
 by_cases hl : a.length = b.length
 ·have main : ∀ (d i : Nat), i + d = a.length → a.take i = b.take i → Ev (fun k => spec_l8Same.l0 k a b (i : Int)) (decide (a = b)) := by
   intro d
   induction d with
   | zero =>
    intro i hi ht
    rw [List.take_of_length_le (by omega), List.take_of_length_le (by omega)] at ht
    rw [decide_eq_true ht]
    refine Ev.step (fun k => by simp only [spec_l8Same.l0]; rfl) ?_
    exact Ev.neg (by omega) (Ev.now _)
   | succ d ih =>
    intro i hi ht
    obtain ⟨x, hx⟩ := get_some (l := a) (i := i) (by omega)
    obtain ⟨y, hy⟩ := get_some (l := b) (i := i) (by omega)
    refine Ev.step (fun k => by simp only [spec_l8Same.l0]; rfl) ?_
    rw [rdOf_at hx, rdOf_at hy, nextC (show i < a.length by omega) ha]
    by_cases h : x.toList = y.toList
    ·have e := bytes_ext h
     subst e
     exact Ev.pos (by omega) (Ev.pos (by omega) (Ev.pos (by omega) (Ev.pos rfl (ih (i + 1) (by omega) (by rw [take_one hx, take_one hy, ht])))))
    ·have hn : ¬ a = b := by
      intro e
      subst e
      rw [hx] at hy
      exact h (by rw [Option.some.inj hy])
     rw [decide_eq_false hn]
     exact Ev.pos (by omega) (Ev.pos (by omega) (Ev.pos (by omega) (Ev.neg h (Ev.now _))))
  exact Ev.pos (by omega) (main a.length 0 (by omega) (by simp))
 ·have hn : ¬ a = b := fun e => hl (by rw [e])
  rw [decide_eq_false hn]
  exact Ev.neg (by omega) (Ev.now _)
theorem impl_same_ev (a b : List ByteArray) (ha : a.length ≤ 9223372036854775807) : Ev (fun k => slices_Equal_string_string.f k a b) (decide (a = b)) := by
 unfold slices_Equal_string_string.f
 by_cases hl : a.length = b.length
 ·have main : ∀ (d i : Nat), i + d = a.length → a.take i = b.take i → Ev (fun k => slices_Equal_string_string.l0 k a b (a.length : Int) (i : Int)) (decide (a = b)) := by
   intro d
   induction d with
   | zero =>
    intro i hi ht
    rw [List.take_of_length_le (by omega), List.take_of_length_le (by omega)] at ht
    rw [decide_eq_true ht]
    refine Ev.step (fun k => by simp only [slices_Equal_string_string.l0]; rfl) ?_
    exact Ev.neg (by omega) (Ev.now _)
   | succ d ih =>
    intro i hi ht
    obtain ⟨x, hx⟩ := get_some (l := a) (i := i) (by omega)
    obtain ⟨y, hy⟩ := get_some (l := b) (i := i) (by omega)
    refine Ev.step (fun k => by simp only [slices_Equal_string_string.l0]; rfl) ?_
    rw [rdOf_at hx, rdOf_at hy, nextC (show i < a.length by omega) ha]
    by_cases h : x.toList = y.toList
    ·have e := bytes_ext h
     subst e
     exact Ev.pos (by omega) (Ev.pos (by omega) (Ev.pos (by omega) (Ev.pos (by omega) (Ev.pos rfl (ih (i + 1) (by omega) (by rw [take_one hx, take_one hy, ht]))))))
    ·have hn : ¬ a = b := by
      intro e
      subst e
      rw [hx] at hy
      exact h (by rw [Option.some.inj hy])
     rw [decide_eq_false hn]
     exact Ev.pos (by omega) (Ev.pos (by omega) (Ev.pos (by omega) (Ev.pos (by omega) (Ev.neg h (Ev.now _)))))
  exact Ev.pos (by omega) (main a.length 0 (by omega) (by simp))
 ·have hn : ¬ a = b := fun e => hl (by rw [e])
  rw [decide_eq_false hn]
  exact Ev.neg (by omega) (Ev.now _)
end Go.Proofs.YtnlndmoecljicaaGreat.Q
end
section
namespace Go.Proofs.YtnlndmoecljicaaGreat.Q
open Go.RowKit Go.Proofs.YtnlndmoecljicaaGreatW.PrintWords Go.Proofs.YtnlndmoecljicaaGreatW.PrintLast Go.Proofs.YtnlndmoecljicaaGreatW.PrintMore
attribute [local go_sem] max2_int min2_int max_two min_two max_three min_three max_four min_four   -- for this text's walks alone
set_option linter.unusedVariables false
set_option linter.unusedSimpArgs false
attribute [local go_sem high] eqA37
mutual
def impl_StoreOk.j0 : Nat → Bool → List ByteArray → Int → ByteArray → List Int → Int → Option (Bool)
 | 0, _, _, _, _, _, _ => none
 | k + 1, x27, x602000, x602001, x602002, x602003, x602004 => if x27 = true then (some false) else (impl_StoreOk.l0 k ([] : List ByteArray) 0 x602000 x602001 x602002 x602003 x602004)
def impl_StoreOk.l0 : Nat → List ByteArray → Int → List ByteArray → Int → ByteArray → List Int → Int → Option (Bool)
 | 0, _, _, _, _, _, _, _ => none
 | k + 1, x3, x4, x602000, x602001, x602002, x602003, x602004 => if x4 < (x602003.length : Int) then ((impl_GetCommit.f k x602003 x4).bind fun bt605 => (if x3.length + bt605.2.2.1.length < 8796093022208 then ((some (x3 ++ bt605.2.2.1 : List ByteArray)).bind fun y613 => (if bt605.2.2.2.2 = true then ((impl_HeadOf.f k y613).bind fun bt616 => (if (!(bt605.1 == bt616.1) || (!(bt605.2.1.toList == bt616.2.toList))) = true then (some false) else (impl_StoreOk.l0 k y613 bt605.2.2.2.1 x602000 x602001 x602002 x602003 x602004))) else (some false))) else (none))) else ((slices_Equal_string_string.f k x3 x602000).bind fun t604 => (some t604))
end
def impl_StoreOk.f (k : Nat) (l0_0 : List ByteArray) (a0_1 : Int) (a0_2 : ByteArray) (l0_3 : List Int) (a0_4 : Int) : Option (Bool) := (impl_LogOk.f k l0_0 a0_1 a0_2).bind fun t602 => (if t602 = true then (if (l0_3.length : Int) > 60000 then (impl_StoreOk.j0 k true l0_0 a0_1 a0_2 l0_3 a0_4) else ((impl_inRange.f a0_4 0 (l0_3.length : Int)).bind fun t603 => (impl_StoreOk.j0 k (!t603) l0_0 a0_1 a0_2 l0_3 a0_4))) else (impl_StoreOk.j0 k true l0_0 a0_1 a0_2 l0_3 a0_4))
def impl_StoreOk.T8 : Bool × List (List Nat × List Nat) := (true, [([], []), ([0], [0]), ([1], [1]), ([2], [2]), ([2], [2]), ([4, 2, 2], [2, 4]), ([3, 5, 2], [2, 3, 5]), ([2, 6], [2, 6])])
def impl_StoreOk.B8 : List Nat := [0, 1, 3, 7, 7, 23, 63, 127]
theorem impl_StoreOk.tab8 : rtab .any (opsOf Tryz.f29 8) = impl_StoreOk.T8 := by kernel_rfl
theorem impl_StoreOk.bits8 : waitsOk impl_StoreOk.T8.2 impl_StoreOk.B8 = true := by kernel_rfl
set_option maxHeartbeats 8000000 in
set_option maxRecDepth 100000 in
theorem impl_StoreOk.calls (k : Nat) (A0_0 : Option Addr) (c0_0 : Nat) (l0_0 : List ByteArray) (a0_1 : Int) (a0_2 : ByteArray) (A0_3 : Option Addr) (c0_3 : Nat) (l0_3 : List Int) (a0_4 : Int) (r : Bool) (w : World) (hr0_0 : Kd.C Kd.string w A0_0 l0_0.length l0_0) (hc0_0 : l0_0.length ≤ c0_0) (hr0_3 : Kd.C (Kd.int .u8) w A0_3 l0_3.length l0_3) (hc0_3 : l0_3.length ≤ c0_3) (h : impl_StoreOk.f k l0_0 a0_1 a0_2 l0_3 a0_4 = some r) :
  Calls Tryz.prog 29 #[.agg #[.slice A0_0 l0_0.length c0_0, .int .i64 a0_1, .string a0_2, .slice A0_3 l0_3.length c0_3, .int .i64 a0_4]] w fun e w' => e = .returned (.bool r) ∧ Below w.heap.size w w' := by
 have hu41 := Tryz.underlying41
 have hu39 := Tryz.underlying39
 have hu37 := Tryz.underlying37
 have HR0_0 := Aside0.mk hr0_0
 have HC0_0 := Aside0.mk hc0_0
 clear hr0_0 hc0_0
 have HR0_3 := Aside0.mk hr0_3
 have HC0_3 := Aside0.mk hc0_3
 clear hr0_3 hc0_3
 have HB := Aside0.mk (Below.refl w.heap.size w)
 have H : ((impl_LogOk.f k l0_0 a0_1 a0_2).bind fun t602 => (if t602 = true then (if (l0_3.length : Int) > 60000 then (impl_StoreOk.j0 k true l0_0 a0_1 a0_2 l0_3 a0_4) else ((impl_inRange.f a0_4 0 (l0_3.length : Int)).bind fun t603 => (impl_StoreOk.j0 k (!t603) l0_0 a0_1 a0_2 l0_3 a0_4))) else (impl_StoreOk.j0 k true l0_0 a0_1 a0_2 l0_3 a0_4))) = some r := h
 clear h
 have HC2 := Aside0.mk H
 clear H
 go_enter Tryz.func29, Tryz.ntmps29
 go_upto_region 1 with (first | ((with_reducible refine gd_ 1 ?_); (try (refine gate_guard (by rfl) ?_; dsimp only)); refine bx_ 1 41 #[.slice A0_0 l0_0.length c0_0, .int .i64 a0_1, .string a0_2, .slice A0_3 l0_3.length c0_3, .int .i64 a0_4] ?_; intro gb601 hg w3 hbox hb; have BK601 := Aside0.mk hbox; have GW601 := gg_ hg HB; have GE601 := GW601; replace HB := ss_ HB hb; clear hb hbox hg))
 (try simp only [Act.put, List.setIfInBounds_toArray, List.set_cons_zero, List.set_cons_succ])
 go_cut [27] (fun v27 wc => ∃ (kq : Nat) (x27_1 : Bool), v27 = .bool x27_1 ∧ Aside0 (impl_StoreOk.j0 kq x27_1 l0_0 a0_1 a0_2 l0_3 a0_4 = some r) ∧ Aside0 (kq ≤ k) ∧ Aside0 (wc.heap[gb601]? = some (.cells #[(.slice A0_0 l0_0.length c0_0), .int .i64 a0_1, .string a0_2, (.slice A0_3 l0_3.length c0_3), .int .i64 a0_4] 41 (0, 0))) ∧ Aside0 (Below w.heap.size w wc))
 case first =>
  have H := HC2.out
  clear HC2
  replace H := bi_ H; obtain ⟨t602, A4, H⟩ := H
  replace H := itb_ H; obtain ⟨rfl, H⟩ | ⟨rfl, H⟩ := H
  ·replace H := it_ H; obtain ⟨c6, H⟩ | ⟨c6, H⟩ := H
   ·have c6b0 : decide (60000 < (l0_3.length : Int)) = true := decide_eq_true c6
    have c6b1 : decide (60000 < l0_3.length) = true := decide_eq_true (by omega)
    clear c6
    (first | rw [c6b0] | (simp only [i64_w, i32_w]; rw [c6b0]) | rw [c6b1] | skip)
    have H' := Aside0.mk H
    clear H
    have hz7 := cz5_ BK601
    go_wp2_with (first | ((with_reducible refine gq_ 62 11 ?_); refine gc_ 11 Tryz.func62 (impl_LogOk.calls k _ _ l0_0 a0_1 a0_2 true _ (cb_ HR0_0 HB) HC0_0.out A4.out) ?_; rintro e w8 ⟨rfl, hb⟩; refine ⟨_, rfl, ?_⟩; replace BK601 := kl_ BK601 hb; replace HB := ss_ HB hb; clear hb; have hz9 := cz5_ BK601))
    go_meet
    case rel => exact ⟨_, (true), e1_, H', ⟨le_⟩, ⟨kb_ BK601.out⟩, ⟨bw_ HB⟩⟩
   ·have c6b0 : decide (60000 < (l0_3.length : Int)) = false := decide_eq_false c6
    have c6b1 : decide (60000 < l0_3.length) = false := decide_eq_false (by omega)
    clear c6
    (first | rw [c6b0] | (simp only [i64_w, i32_w]; rw [c6b0]) | rw [c6b1] | skip)
    replace H := bi_ H; obtain ⟨t603, A10, H⟩ := H
    have H' := Aside0.mk H
    clear H
    have hz11 := cz5_ BK601
    go_wp2_with (first | ((with_reducible refine gq_ 62 11 ?_); refine gc_ 11 Tryz.func62 (impl_LogOk.calls k _ _ l0_0 a0_1 a0_2 true _ (cb_ HR0_0 HB) HC0_0.out A4.out) ?_; rintro e w12 ⟨rfl, hb⟩; refine ⟨_, rfl, ?_⟩; replace BK601 := kl_ BK601 hb; replace HB := ss_ HB hb; clear hb; have hz13 := cz5_ BK601) | (go_at_call 63; (with_reducible refine (impl_inRange.calls a0_4 0 (l0_3.length : Int) t603 _ A10.out).mono ?_); rintro e w' ⟨rfl, ⟨nd, rfl⟩⟩))
    go_meet
    case rel => exact ⟨_, (!t603), e1_, H', ⟨le_⟩, ⟨kb_ BK601.out⟩, ⟨bw_ HB⟩⟩
  ·have H' := Aside0.mk H
   clear H
   have hz14 := cz5_ BK601
   go_wp2_with (first | ((with_reducible refine gq_ 62 11 ?_); refine gc_ 11 Tryz.func62 (impl_LogOk.calls k _ _ l0_0 a0_1 a0_2 false _ (cb_ HR0_0 HB) HC0_0.out A4.out) ?_; rintro e w15 ⟨rfl, hb⟩; refine ⟨_, rfl, ?_⟩; replace BK601 := kl_ BK601 hb; replace HB := ss_ HB hb; clear hb))
   go_meet
   case rel => exact ⟨_, (true), e1_, H', ⟨le_⟩, ⟨kb_ BK601.out⟩, ⟨bw_ HB⟩⟩
 case rest =>
  clear HC2
  obtain ⟨kq, x27_1, rfl, HA, HJ1, BK601, HB⟩ := hcut
  cases kq with
  | zero => exact absurd HA.out (by simp [impl_StoreOk.j0])
  | succ kj1 =>
   have H := HA.out
   clear HA
   simp only [impl_StoreOk.j0] at H
   replace H := itb_ H; obtain ⟨rfl, H⟩ | ⟨rfl, H⟩ := H
   ·obtain rfl := Option.some.inj H
    go_wp2
    go_ret
    exact ⟨e2_, bw_ HB⟩
   ·have H' := Aside0.mk H
    clear H
    go_wp2
    go_loopg [3, 4] kj1 (fun kq v3 v4 w' => ∃ (x3_2 : List ByteArray) (x4_2 : Int), v4 = .int .i64 x4_2 ∧ Aside0 (impl_StoreOk.l0 kq x3_2 x4_2 l0_0 a0_1 a0_2 l0_3 a0_4 = some r) ∧ Aside0 (kq ≤ kj1) ∧ Aside0 (Kd.R Kd.string 9 w' w.heap.size (fun _ => True) v3 x3_2) ∧ Aside0 (w'.heap[gb601]? = some (.cells #[(.slice A0_0 l0_0.length c0_0), .int .i64 a0_1, .string a0_2, (.slice A0_3 l0_3.length c0_3), .int .i64 a0_4] 41 (0, 0))) ∧ Aside0 (Below w.heap.size w w'))
    case atStart => exact ⟨(([] : List ByteArray)), (0), e1_, H', ⟨Nat.le_refl _⟩, ⟨by first | exact Kd.R_nil _ _ _ _ _ | exact Kd.N_nil _ _ _ _ _ | exact Kd.V_nil _ _ _ _ _ | exact Kd.Q_nil _ _ _ _ _ | exact Kd.S_nil _ _ _ _ _⟩, ⟨kb_ BK601.out⟩, ⟨bw_ HB⟩⟩
    case round =>
     clear H'
     try clear c2
     try clear p2
     try clear c5
     try clear c6
     try clear c6b0
     try clear c6b1
     try clear hz11
     try clear hz13
     try clear hz14
     try clear hz7
     try clear hz9
     obtain ⟨x3_2, x4_2, rfl, HA, HK2, HO_3, BK601, HB⟩ := hrel
     cases gk with
     | zero => exact absurd HA.out (by simp [impl_StoreOk.l0])
     | succ k2 =>
      have H := HA.out
      clear HA
      simp only [impl_StoreOk.l0] at H
      replace H := itd_ H; obtain ⟨c17b0, H⟩ | ⟨c17b0, H⟩ := H
      ·replace H := bi_ H; obtain ⟨⟨t605, t606, t607, t610, t611⟩, A18, H⟩ := H
       dsimp only at H
       replace H := ip_ H; obtain ⟨c19, H⟩ := H
       have LMc19 := Aside0.mk c19
       clear c19
       obtain ⟨y613, Ny613, H⟩ := sb_ (x3_2 ++ t607) H
       replace H := itb_ H; obtain ⟨rfl, H⟩ | ⟨rfl, H⟩ := H
       ·replace H := bi_ H; obtain ⟨⟨t616, t617⟩, A21, H⟩ := H
        dsimp only at H
        replace H := it_ H; obtain ⟨c22, H⟩ | ⟨c22, H⟩ := H
        ·have c22b0 : (!(t605 == t616) || (!(t606.toList == t617.toList))) = true := c22
         clear c22
         obtain rfl := Option.some.inj H
         have hz23 := cz5_ BK601
         try go_wp2_with (first | ((with_reducible refine gq_ 64 37 ?_); refine gc_ 37 Tryz.func64 (impl_GetCommit.calls k2 _ _ l0_3 x4_2 t605 t606 t607 t610 true _ (cb_ HR0_3 HB) HC0_3.out A18.out) ?_; rintro e w24 ⟨v608, rfl, ho0, hb⟩; refine ⟨_, rfl, ?_⟩; have HO609 := Aside0.mk (Kd.R_lower (Kd.R_new' ho0 (lt_ HO_3)) (sz_ HB)); replace HO_3 := re_ HO_3 ho0 hb; replace BK601 := kl_ BK601 hb; replace HB := ss_ HB hb; clear hb ho0) | ((with_reducible refine gd_ 5 ?_); (try (refine gate_guard (by rfl) ?_; dsimp only)); refine bx_ 5 37 #[.int .i64 0, .string (⟨#[]⟩ : ByteArray)] ?_; intro gb612 hg w25 hbox hb; replace HO_3 := rb_ HO_3 hb; replace HO609 := rb_ HO609 hb; have BK612 := Aside0.mk hbox; have GW612 := gg_ hg HB; have GE612 := GW612; replace HB := ss_ HB hb; have NB601_612 := nla_ hg BK601; have NB612_601 := nga_ hg BK601; replace BK601 := kl_ BK601 hb; clear hb hbox hg; have hnb26 := NB612_601.out; have hnc26 := NB601_612.out; have hz27 := cz2_ BK612; obtain ⟨Ao29, co29, eo29⟩ := Kd.R_slice HO609.out; subst eo29) | ((with_reducible refine gate_builtin (b := .append) (xs := #[.tmp 42, .tmp 43]) rfl ?_); (try (refine gate_guard (by rfl) ?_; dsimp only)); at_builtin; refine Kd.R_append_rows Kd.string (w0 := w) w.heap.size rfl (.tmp 42) (.tmp 43) 22 9 (.string ⟨#[]⟩) 16 rfl Tryz.underlying22 info9 rfl (by decide) (by omega) u3 x3_2 t607 _ _ _ (fun k_ => some k_ ≠ (.slice Ao29 t607.length co29 : Value).ownBlock) (fun _ => False) rfl rfl ?aO ?aR (fun _ _ h => h) (fun _ h => h.elim) ?aF ?aB ?aS ?aL ?_; (case aR => exact chf_ HO609 BK612); (case aB => exact (bw_ HB)); (case aF => exact (fun k_ hk => Kd.fresh' (lf_ HO609 BK612) k_ hk)); (case aO => exact (kr_ (Kd.R_mono (Kd.R_far (p := ⟨gb612, 1, none⟩) (Kd.R_far (p := ⟨gb612, 0, none⟩) (Kd.R_types HO_3.out BK612.out (by decide)) (fun _ hk => hk.2) (.int .i64 t605)) (fun _ hk => hk.2) (.string t606)) (fun _ hk => hk.1.2)))); (case aS => exact (sz_ HB)); (case aL => have := LMc19.out; omega); intro v614 w28 ho hb hg hat; rw [← Ny613.out] at ho; replace BK601 := kgp_ BK601 HO_3 hg; replace HO609 := Aside0.mk (Kd.R_after (ok := (fun _ => True)) (kr_ (Kd.R_mono (Kd.R_far (p := ⟨gb612, 1, none⟩) (Kd.R_far (p := ⟨gb612, 0, none⟩) (Kd.R_types HO609.out BK612.out (by decide)) (fun _ hk => hk.2) (.int .i64 t605)) (fun _ hk => hk.2) (.string t606)) (fun _ hk => ⟨trivial, hk.1.2⟩))) hg hat); replace BK612 := kgp_ BK612 HO_3 hg; replace HB := Aside0.mk hb; have HO615 := Aside0.mk ho; clear HO_3; clear ho hb hg hat))
         replace HO609 := Aside0.mk (Kd.R_drew HO609.out)
         replace HO615 := Aside0.mk (Kd.R_drew HO615.out)
         replace BK601 := Aside0.mk (blk_drew BK601.out)
         replace BK612 := Aside0.mk (blk_drew BK612.out)
         replace HB := Aside0.mk (below_drew1 HB.out)
         obtain ⟨Ao31, co31, eo31⟩ := Kd.R_slice HO615.out
         (first | subst eo31 | (injection eo31 with f1_ f2_ f3_; have f4_ := f1_.symm; have f5_ := f3_.symm; clear f1_ f2_ f3_; subst f4_; subst f5_))
         refine start_ (n := 8) (S := fun w' => w'.cell? ⟨gb612, 0, none⟩ = some (.int .i64 t605) ∧ w'.cell? ⟨gb612, 1, none⟩ = some (.string t606)) (ds := []) (lz_ 8 0) (by kernel_rfl) rfl rfl ⟨bc0_ BK612.out, bc1_ BK612.out⟩ (fun hHeld => ?_); refine with_tabW impl_StoreOk.tab8 impl_StoreOk.bits8 (fun HT_ HW_ => ?_)
         generalize w28.drew = w30 at HO609 HO615 BK601 BK612 HB hHeld ⊢
         refine pt_ 0 45 1 ?_
         refine pt_ 1 46 3 ?_
         refine pt_ 2 47 7 ?_
         refine pt_ 4 49 23 ?_
         refine tt_ 3 48 31 ?_
         refine one_ (i := 5) (N := some 50) (lz_ 8 63) rfl rfl (one_of HT_.out (by kernel_rfl)) (by decide) (fun K hK => ?_)
         refine gf_ Tryz.func65 (impl_HeadOf.calls k2 _ _ y613 t616 t617 _ (ch_ HO615) (cl_ HO615) A21.out) ?_
         rintro e w32 ⟨rfl, hb⟩
         refine ⟨_, rfl, ?_⟩
         replace HO609 := rb_ HO609 hb
         replace HO615 := rb_ HO615 hb
         replace BK601 := kl_ BK601 hb
         replace BK612 := kl_ BK612 hb
         replace HB := ss_ HB hb
         clear hb
         refine hK.out _ _ ⟨bc0_ BK612.out, bc1_ BK612.out⟩ (fun hHeld => ?_)
         clear hK K
         refine no_ 50 ?_
         refine pt_ 6 51 127 ?_
         refine pt_ 7 52 255 ?_
         refine done_ (done_of HT_.out (by kernel_rfl)) ?_
         try go_wp2
         go_ret
         exact ⟨e2_, bw_ HB⟩
        ·have c22b0 : (!(t605 == t616) || (!(t606.toList == t617.toList))) = false := by simpa using c22
         clear c22
         have H' := Aside0.mk H
         clear H
         have hz33 := cz5_ BK601
         try go_wp2_with (first | ((with_reducible refine gq_ 64 37 ?_); refine gc_ 37 Tryz.func64 (impl_GetCommit.calls k2 _ _ l0_3 x4_2 t605 t606 t607 t610 true _ (cb_ HR0_3 HB) HC0_3.out A18.out) ?_; rintro e w34 ⟨v608, rfl, ho0, hb⟩; refine ⟨_, rfl, ?_⟩; have HO609 := Aside0.mk (Kd.R_lower (Kd.R_new' ho0 (lt_ HO_3)) (sz_ HB)); replace HO_3 := re_ HO_3 ho0 hb; replace BK601 := kl_ BK601 hb; replace HB := ss_ HB hb; clear hb ho0) | ((with_reducible refine gd_ 5 ?_); (try (refine gate_guard (by rfl) ?_; dsimp only)); refine bx_ 5 37 #[.int .i64 0, .string (⟨#[]⟩ : ByteArray)] ?_; intro gb612 hg w35 hbox hb; replace HO_3 := rb_ HO_3 hb; replace HO609 := rb_ HO609 hb; have BK612 := Aside0.mk hbox; have GW612 := gg_ hg HB; have GE612 := GW612; replace HB := ss_ HB hb; have NB601_612 := nla_ hg BK601; have NB612_601 := nga_ hg BK601; replace BK601 := kl_ BK601 hb; clear hb hbox hg; have hnb36 := NB612_601.out; have hnc36 := NB601_612.out; have hz37 := cz2_ BK612; obtain ⟨Ao39, co39, eo39⟩ := Kd.R_slice HO609.out; subst eo39) | ((with_reducible refine gate_builtin (b := .append) (xs := #[.tmp 42, .tmp 43]) rfl ?_); (try (refine gate_guard (by rfl) ?_; dsimp only)); at_builtin; refine Kd.R_append_rows Kd.string (w0 := w) w.heap.size rfl (.tmp 42) (.tmp 43) 22 9 (.string ⟨#[]⟩) 16 rfl Tryz.underlying22 info9 rfl (by decide) (by omega) u3 x3_2 t607 _ _ _ (fun k_ => some k_ ≠ (.slice Ao39 t607.length co39 : Value).ownBlock) (fun _ => False) rfl rfl ?aO ?aR (fun _ _ h => h) (fun _ h => h.elim) ?aF ?aB ?aS ?aL ?_; (case aR => exact chf_ HO609 BK612); (case aB => exact (bw_ HB)); (case aF => exact (fun k_ hk => Kd.fresh' (lf_ HO609 BK612) k_ hk)); (case aO => exact (kr_ (Kd.R_mono (Kd.R_far (p := ⟨gb612, 1, none⟩) (Kd.R_far (p := ⟨gb612, 0, none⟩) (Kd.R_types HO_3.out BK612.out (by decide)) (fun _ hk => hk.2) (.int .i64 t605)) (fun _ hk => hk.2) (.string t606)) (fun _ hk => hk.1.2)))); (case aS => exact (sz_ HB)); (case aL => have := LMc19.out; omega); intro v614 w38 ho hb hg hat; rw [← Ny613.out] at ho; replace BK601 := kgp_ BK601 HO_3 hg; replace HO609 := Aside0.mk (Kd.R_after (ok := (fun _ => True)) (kr_ (Kd.R_mono (Kd.R_far (p := ⟨gb612, 1, none⟩) (Kd.R_far (p := ⟨gb612, 0, none⟩) (Kd.R_types HO609.out BK612.out (by decide)) (fun _ hk => hk.2) (.int .i64 t605)) (fun _ hk => hk.2) (.string t606)) (fun _ hk => ⟨trivial, hk.1.2⟩))) hg hat); replace BK612 := kgp_ BK612 HO_3 hg; replace HB := Aside0.mk hb; have HO615 := Aside0.mk ho; clear HO_3; clear ho hb hg hat))
         replace HO609 := Aside0.mk (Kd.R_drew HO609.out)
         replace HO615 := Aside0.mk (Kd.R_drew HO615.out)
         replace BK601 := Aside0.mk (blk_drew BK601.out)
         replace BK612 := Aside0.mk (blk_drew BK612.out)
         replace HB := Aside0.mk (below_drew1 HB.out)
         obtain ⟨Ao41, co41, eo41⟩ := Kd.R_slice HO615.out
         (first | subst eo41 | (injection eo41 with f1_ f2_ f3_; have f4_ := f1_.symm; have f5_ := f3_.symm; clear f1_ f2_ f3_; subst f4_; subst f5_))
         refine start_ (n := 8) (S := fun w' => w'.cell? ⟨gb612, 0, none⟩ = some (.int .i64 t605) ∧ w'.cell? ⟨gb612, 1, none⟩ = some (.string t606)) (ds := []) (lz_ 8 0) (by kernel_rfl) rfl rfl ⟨bc0_ BK612.out, bc1_ BK612.out⟩ (fun hHeld => ?_); refine with_tabW impl_StoreOk.tab8 impl_StoreOk.bits8 (fun HT_ HW_ => ?_)
         generalize w38.drew = w40 at HO609 HO615 BK601 BK612 HB hHeld ⊢
         refine pt_ 0 45 1 ?_
         refine pt_ 1 46 3 ?_
         refine pt_ 2 47 7 ?_
         refine pt_ 4 49 23 ?_
         refine tt_ 3 48 31 ?_
         refine one_ (i := 5) (N := some 50) (lz_ 8 63) rfl rfl (one_of HT_.out (by kernel_rfl)) (by decide) (fun K hK => ?_)
         refine gf_ Tryz.func65 (impl_HeadOf.calls k2 _ _ y613 t616 t617 _ (ch_ HO615) (cl_ HO615) A21.out) ?_
         rintro e w42 ⟨rfl, hb⟩
         refine ⟨_, rfl, ?_⟩
         replace HO609 := rb_ HO609 hb
         replace HO615 := rb_ HO615 hb
         replace BK601 := kl_ BK601 hb
         replace BK612 := kl_ BK612 hb
         replace HB := ss_ HB hb
         clear hb
         refine hK.out _ _ ⟨bc0_ BK612.out, bc1_ BK612.out⟩ (fun hHeld => ?_)
         clear hK K
         refine no_ 50 ?_
         refine pt_ 6 51 127 ?_
         refine pt_ 7 52 255 ?_
         refine done_ (done_of HT_.out (by kernel_rfl)) ?_
         try go_wp2
         go_roundg k2
         case measure => have := HJ1.out; have := HK2.out; omega
         case rel => exact ⟨(y613), (t610), e1_, H', ⟨by have := HJ1.out; have := HK2.out; omega⟩, ⟨by (with_reducible repeat (first | apply Kd.R_alloc | apply Kd.R_drewN | apply Kd.R_drew)); exact Kd.R_mono HO615.out (fun _ hk => trivial)⟩, ⟨kb_ BK601.out⟩, ⟨bw_ HB⟩⟩
       ·obtain rfl := Option.some.inj H
        have hz43 := cz5_ BK601
        try go_wp2_with (first | ((with_reducible refine gq_ 64 37 ?_); refine gc_ 37 Tryz.func64 (impl_GetCommit.calls k2 _ _ l0_3 x4_2 t605 t606 t607 t610 false _ (cb_ HR0_3 HB) HC0_3.out A18.out) ?_; rintro e w44 ⟨v608, rfl, ho0, hb⟩; refine ⟨_, rfl, ?_⟩; have HO609 := Aside0.mk (Kd.R_lower (Kd.R_new' ho0 (lt_ HO_3)) (sz_ HB)); replace HO_3 := re_ HO_3 ho0 hb; replace BK601 := kl_ BK601 hb; replace HB := ss_ HB hb; clear hb ho0) | ((with_reducible refine gd_ 5 ?_); (try (refine gate_guard (by rfl) ?_; dsimp only)); refine bx_ 5 37 #[.int .i64 0, .string (⟨#[]⟩ : ByteArray)] ?_; intro gb612 hg w45 hbox hb; replace HO_3 := rb_ HO_3 hb; replace HO609 := rb_ HO609 hb; have BK612 := Aside0.mk hbox; have GW612 := gg_ hg HB; have GE612 := GW612; replace HB := ss_ HB hb; have NB601_612 := nla_ hg BK601; have NB612_601 := nga_ hg BK601; replace BK601 := kl_ BK601 hb; clear hb hbox hg; have hnb46 := NB612_601.out; have hnc46 := NB601_612.out; have hz47 := cz2_ BK612; obtain ⟨Ao49, co49, eo49⟩ := Kd.R_slice HO609.out; subst eo49) | ((with_reducible refine gate_builtin (b := .append) (xs := #[.tmp 42, .tmp 43]) rfl ?_); (try (refine gate_guard (by rfl) ?_; dsimp only)); at_builtin; refine Kd.R_append_rows Kd.string (w0 := w) w.heap.size rfl (.tmp 42) (.tmp 43) 22 9 (.string ⟨#[]⟩) 16 rfl Tryz.underlying22 info9 rfl (by decide) (by omega) u3 x3_2 t607 _ _ _ (fun k_ => some k_ ≠ (.slice Ao49 t607.length co49 : Value).ownBlock) (fun _ => False) rfl rfl ?aO ?aR (fun _ _ h => h) (fun _ h => h.elim) ?aF ?aB ?aS ?aL ?_; (case aR => exact chf_ HO609 BK612); (case aB => exact (bw_ HB)); (case aF => exact (fun k_ hk => Kd.fresh' (lf_ HO609 BK612) k_ hk)); (case aO => exact (kr_ (Kd.R_mono (Kd.R_far (p := ⟨gb612, 1, none⟩) (Kd.R_far (p := ⟨gb612, 0, none⟩) (Kd.R_types HO_3.out BK612.out (by decide)) (fun _ hk => hk.2) (.int .i64 t605)) (fun _ hk => hk.2) (.string t606)) (fun _ hk => hk.1.2)))); (case aS => exact (sz_ HB)); (case aL => have := LMc19.out; omega); intro v614 w48 ho hb hg hat; rw [← Ny613.out] at ho; replace BK601 := kgp_ BK601 HO_3 hg; replace HO609 := Aside0.mk (Kd.R_after (ok := (fun _ => True)) (kr_ (Kd.R_mono (Kd.R_far (p := ⟨gb612, 1, none⟩) (Kd.R_far (p := ⟨gb612, 0, none⟩) (Kd.R_types HO609.out BK612.out (by decide)) (fun _ hk => hk.2) (.int .i64 t605)) (fun _ hk => hk.2) (.string t606)) (fun _ hk => ⟨trivial, hk.1.2⟩))) hg hat); replace BK612 := kgp_ BK612 HO_3 hg; replace HB := Aside0.mk hb; have HO615 := Aside0.mk ho; clear HO_3; clear ho hb hg hat))
        replace HO609 := Aside0.mk (Kd.R_drew HO609.out)
        replace HO615 := Aside0.mk (Kd.R_drew HO615.out)
        replace BK601 := Aside0.mk (blk_drew BK601.out)
        replace BK612 := Aside0.mk (blk_drew BK612.out)
        replace HB := Aside0.mk (below_drew1 HB.out)
        refine start_ (n := 8) (S := fun w' => True) (ds := []) (lz_ 8 0) (by kernel_rfl) rfl rfl trivial (fun hHeld => ?_); refine with_tabW impl_StoreOk.tab8 impl_StoreOk.bits8 (fun HT_ HW_ => ?_)
        generalize w48.drew = w50 at HO609 HO615 BK601 BK612 HB hHeld ⊢
        refine pt_ 0 45 1 ?_
        refine pt_ 1 46 3 ?_
        refine pt_ 2 47 7 ?_
        refine ut_ 3 48 15 ?_
        refine ut_ 4 49 31 ?_
        refine ut_ 5 50 63 ?_
        refine ut_ 6 51 127 ?_
        refine pt_ 7 52 255 ?_
        refine done_ (done_of HT_.out (by kernel_rfl)) ?_
        try go_wp2
        go_ret
        exact ⟨e2_, bw_ HB⟩
      ·replace H := bi_ H; obtain ⟨t604, A51, H⟩ := H
       obtain rfl := Option.some.inj H
       have hz52 := cz5_ BK601
       obtain ⟨Ao53, co53, eo53⟩ := Kd.R_slice HO_3.out
       subst eo53
       go_wp2_with (first | ((with_reducible refine gq_ 66 58 ?_); refine gc_ 58 Tryz.func66 (slices_Equal_string_string.calls k2 _ _ x3_2 _ _ l0_0 t604 _ (ch_ HO_3) (cl_ HO_3) (cb_ HR0_0 HB) HC0_0.out A51.out) ?_; rintro e w' ⟨rfl, ⟨nd, rfl⟩⟩; refine ⟨_, rfl, ?_⟩))
       go_ret
       exact ⟨e2_, bw_ HB⟩
mutual
def spec_l12Replay.l0 : Nat → List Int → Int → List ByteArray → Int → ByteArray → Option (List ByteArray × Int × ByteArray × Bool)
 | 0, _, _, _, _, _ => none
 | k + 1, x0, x5, x608000, x608001, x608002 => if x5 < (x0.length : Int) then ((spec_GetCommit.f k x0 x5).bind fun bt608 => (if bt608.2.2.2.2 = true then (spec_l12Replay.j1 k x0 bt608.2.2.1 bt608.2.2.2.1 (decide ((wrap64 ((x608000.length : Int) + (bt608.2.2.1.length : Int))) > 200)) x608000 x608001 x608002 bt608.1 bt608.2.1) else (spec_l12Replay.j1 k x0 bt608.2.2.1 bt608.2.2.2.1 true x608000 x608001 x608002 bt608.1 bt608.2.1))) else (some (x608000, x608001, x608002, true))
def spec_l12Replay.j1 : Nat → List Int → List ByteArray → Int → Bool → List ByteArray → Int → ByteArray → Int → ByteArray → Option (List ByteArray × Int × ByteArray × Bool)
 | 0, _, _, _, _, _, _, _, _, _ => none
 | k + 1, x0, x7, x8, x33, x608000, x608001, x608002, x616000, x616001 => if x33 = true then (some (x608000, x608001, x608002, false)) else (if x608000.length + x7.length < 8796093022208 then ((some (x608000 ++ x7 : List ByteArray)).bind fun y616 => ((spec_HeadOf.f k y616).bind fun bt619 => (if (!(x616000 == bt619.1) || (!(x616001.toList == bt619.2.toList))) = true then (some (y616, x616000, x616001, false)) else (spec_l12Replay.l0 k x0 x8 y616 x616000 x616001)))) else (none))
end
def spec_l12Replay.f (k : Nat) (l0 : List Int) : Option (List ByteArray × Int × ByteArray × Bool) := (spec_LogNew.f k).bind fun bt602 => (spec_l12Replay.l0 k l0 0 bt602.1 bt602.2.1 bt602.2.2)
set_option maxHeartbeats 8000000 in
set_option maxRecDepth 100000 in
theorem spec_l12Replay.calls (k : Nat) (A0 : Option Addr) (c0 : Nat) (l0 : List Int) (r1 : List ByteArray) (r2 : Int) (r3 : ByteArray) (r4 : Bool) (w : World) (hr0 : Kd.C (Kd.int .u8) w A0 l0.length l0) (hc0 : l0.length ≤ c0) (h : spec_l12Replay.f k l0 = some (r1, r2, r3, r4)) :
  Calls Tryz.prog 108 #[.slice A0 l0.length c0] w fun e w' => ∃ v0_ : Value, e = .returned (.tuple #[.agg #[v0_, .int .i64 r2, .string r3], .bool r4]) ∧ Kd.R Kd.string 9 w' w.heap.size (fun _ => True) v0_ r1 ∧ Below w.heap.size w w' := by
 have hu39 := Tryz.underlying39
 have hu37 := Tryz.underlying37
 have HR0 := Aside0.mk hr0
 have HC0 := Aside0.mk hc0
 clear hr0 hc0
 have HB := Aside0.mk (Below.refl w.heap.size w)
 have H : ((spec_LogNew.f k).bind fun bt602 => (spec_l12Replay.l0 k l0 0 bt602.1 bt602.2.1 bt602.2.2)) = some (r1, r2, r3, r4) := h
 clear h
 replace H := bi_ H; obtain ⟨⟨t602, t605, t606⟩, A2, H⟩ := H
 dsimp only at H
 have H' := Aside0.mk H
 clear H
 go_enter Tryz.func108, Tryz.ntmps108
 go_wp2_with (first | ((with_reducible refine gd_ 2 ?_); (try (refine gate_guard (by rfl) ?_; dsimp only)); refine bx_ 2 39 #[.slice none 0 0, .int .i64 0, .string (⟨#[]⟩ : ByteArray)] ?_; intro gb601 hg w3 hbox hb; have BK601 := Aside0.mk hbox; have GW601 := gg_ hg HB; have GE601 := GW601; replace HB := ss_ HB hb; clear hb hbox hg) | ((with_reducible refine gq_ 137 10 ?_); refine gc_ 10 Tryz.func137 (spec_LogNew.calls k  t602 t605 t606 _ A2.out) ?_; rintro e w4 ⟨v603, rfl, ho0, hb⟩; refine ⟨_, rfl, ?_⟩; have HO604 := Aside0.mk (Kd.R_lower ho0 (sz_ HB)); replace BK601 := kl_ BK601 hb; replace HB := ss_ HB hb; clear hb ho0) | ((with_reducible refine gd_ 4 ?_); (try (refine gate_guard (by rfl) ?_; dsimp only)); refine bx_ 4 39 #[.slice none 0 0, .int .i64 0, .string (⟨#[]⟩ : ByteArray)] ?_; intro gb607 hg w5 hbox hb; replace HO604 := rb_ HO604 hb; have BK607 := Aside0.mk hbox; have GW607 := gg_ hg HB; have GE607 := GW607; replace HB := ss_ HB hb; have NB601_607 := nla_ hg BK601; have NB607_601 := nga_ hg BK601; replace BK601 := kl_ BK601 hb; clear hb hbox hg; obtain ⟨Ao6, co6, eo6⟩ := Kd.R_slice HO604.out; subst eo6; have hnb7 := NB607_601.out; have hnc7 := NB601_607.out; have hz8 := cz3_ BK607))
 go_loopg [5] k (fun kq v5 w' => ∃ (x5_1 : Int) (x602001_1 : Int) (x602002_1 : ByteArray) (x608000_1 : List ByteArray) (x608001_1 : Int) (x608002_1 : ByteArray) (u608000 : Value), v5 = .int .i64 x5_1 ∧ Aside0 (spec_l12Replay.l0 kq l0 x5_1 x608000_1 x608001_1 x608002_1 = some (r1, r2, r3, r4)) ∧ Aside0 (kq ≤ k) ∧ Aside0 (Kd.R Kd.string 9 w' w.heap.size (fun _ => True) u608000 x608000_1) ∧ Aside0 (w'.heap[gb601]? = some (.cells #[(.slice none 0 0), .int .i64 x602001_1, .string x602002_1] 39 (0, 0))) ∧ Aside0 (w'.heap[gb607]? = some (.cells #[u608000, .int .i64 x608001_1, .string x608002_1] 39 (0, 0))) ∧ Aside0 (Below w.heap.size w w'))
 case atStart => exact ⟨(0), (0), ((⟨#[]⟩ : ByteArray)), (t602), (t605), (t606), (.slice Ao6 t602.length co6), e1_, H', ⟨Nat.le_refl _⟩, ⟨by (with_reducible repeat (first | apply Kd.R_alloc | apply Kd.R_drewN | apply Kd.R_drew)); exact Kd.R_mono (Kd.R_far (p := ⟨gb607, 2, none⟩) (Kd.R_far (p := ⟨gb607, 1, none⟩) (Kd.R_far (p := ⟨gb607, 0, none⟩) (Kd.R_types HO604.out BK607.out (by decide)) (fun _ hk => hk.2) (.slice Ao6 t602.length co6)) (fun _ hk => hk.2) (.int .i64 t605)) (fun _ hk => hk.2) (.string t606)) (fun _ hk => trivial)⟩, ⟨kq_ BK601⟩, ⟨kq_ BK607⟩, ⟨bw_ HB⟩⟩
 case round =>
  clear H'
  try clear hz8
  obtain ⟨x5_1, x602001_1, x602002_1, x608000_1, x608001_1, x608002_1, u608000, rfl, HA, HK1, HO_608000, BK601, BK607, HB⟩ := hrel
  cases gk with
  | zero => exact absurd HA.out (by simp [spec_l12Replay.l0])
  | succ k1 =>
   have H := HA.out
   clear HA
   simp only [spec_l12Replay.l0] at H
   replace H := itd_ H; obtain ⟨c9b0, H⟩ | ⟨c9b0, H⟩ := H
   ·replace H := bi_ H; obtain ⟨⟨t608, t609, t610, t613, t614⟩, A10, H⟩ := H
    dsimp only at H
    have HC11 := Aside0.mk H
    clear H
    go_upto_region 5 with (first | ((with_reducible refine gq_ 127 18 ?_); refine gc_ 18 Tryz.func127 (spec_GetCommit.calls k1 _ _ l0 x5_1 t608 t609 t610 t613 t614 _ (cb_ HR0 HB) HC0.out A10.out) ?_; rintro e w12 ⟨v611, rfl, ho0, hb⟩; refine ⟨_, rfl, ?_⟩; have HO612 := Aside0.mk (Kd.R_lower (Kd.R_new' ho0 (lt_ HO_608000)) (sz_ HB)); replace HO_608000 := re_ HO_608000 ho0 hb; replace BK601 := kl_ BK601 hb; replace BK607 := kl_ BK607 hb; replace HB := ss_ HB hb; clear hb ho0) | ((with_reducible refine gd_ 6 ?_); (try (refine gate_guard (by rfl) ?_; dsimp only)); refine bx_ 6 37 #[.int .i64 0, .string (⟨#[]⟩ : ByteArray)] ?_; intro gb615 hg w13 hbox hb; replace HO_608000 := rb_ HO_608000 hb; replace HO612 := rb_ HO612 hb; have BK615 := Aside0.mk hbox; have GW615 := gg_ hg HB; have GE615 := GW615; replace HB := ss_ HB hb; have NB601_615 := nla_ hg BK601; have NB615_601 := nga_ hg BK601; replace BK601 := kl_ BK601 hb; have NB607_615 := nla_ hg BK607; have NB615_607 := nga_ hg BK607; replace BK607 := kl_ BK607 hb; clear hb hbox hg; have hnb14 := NB615_601.out; have hnc14 := NB601_615.out; have hnb15 := NB615_607.out; have hnc15 := NB607_615.out; have hz16 := cz2_ BK615))
    (try simp only [Act.put, List.setIfInBounds_toArray, List.set_cons_zero, List.set_cons_succ])
    go_cut [33] (fun v33 wc => ∃ (kq : Nat) (x33_10 : Bool), v33 = .bool x33_10 ∧ Aside0 (spec_l12Replay.j1 kq l0 t610 t613 x33_10 x608000_1 x608001_1 x608002_1 t608 t609 = some (r1, r2, r3, r4)) ∧ Aside0 (kq ≤ k1) ∧ Aside0 (Kd.R Kd.string 9 wc w.heap.size (fun k_ => some k_ ≠ (u608000 : Value).ownBlock) v611 t610) ∧ Aside0 (Kd.R Kd.string 9 wc w.heap.size (fun k_ => some k_ ≠ (v611 : Value).ownBlock) u608000 x608000_1) ∧ Aside0 (wc.heap[gb601]? = some (.cells #[(.slice none 0 0), .int .i64 x602001_1, .string x602002_1] 39 (0, 0))) ∧ Aside0 (wc.heap[gb607]? = some (.cells #[u608000, .int .i64 x608001_1, .string x608002_1] 39 (0, 0))) ∧ Aside0 (wc.heap[gb615]? = some (.cells #[.int .i64 t608, .string t609] 37 (0, 0))) ∧ Aside0 (Below w.heap.size w wc))
    case first =>
     have H := HC11.out
     clear HC11
     replace H := itb_ H; obtain ⟨rfl, H⟩ | ⟨rfl, H⟩ := H
     ·have H' := Aside0.mk H
      clear H
      have hnb18 := NB607_601.out
      have hnc18 := NB601_607.out
      have hnb19 := NB607_615.out
      have hnc19 := NB615_607.out
      have hz20 := cz3_ BK607
      obtain ⟨Ao21, co21, eo21⟩ := Kd.R_slice HO_608000.out
      subst eo21
      obtain ⟨Ao22, co22, eo22⟩ := Kd.R_slice HO612.out
      subst eo22
      go_wp2
      go_meet
      case rel => exact ⟨_, (decide ((wrap64 ((x608000_1.length : Int) + (t610.length : Int))) > 200)), e1_, H', ⟨by have := HK1.out; first | omega | exact Nat.le_refl _⟩, ⟨by (with_reducible repeat (first | apply Kd.R_alloc | apply Kd.R_drewN | apply Kd.R_drew)); exact Kd.R_mono (Kd.R_far (p := ⟨gb615, 1, none⟩) (Kd.R_far (p := ⟨gb615, 0, none⟩) (Kd.R_types HO612.out BK615.out (by decide)) (fun _ hk => hk.2) (.int .i64 t608)) (fun _ hk => hk.2) (.string t609)) (fun _ hk => hk.1.2)⟩, ⟨by (with_reducible repeat (first | apply Kd.R_alloc | apply Kd.R_drewN | apply Kd.R_drew)); exact Kd.R_mono (Kd.R_far (p := ⟨gb615, 1, none⟩) (Kd.R_far (p := ⟨gb615, 0, none⟩) (Kd.R_types HO_608000.out BK615.out (by decide)) (fun _ hk => hk.2) (.int .i64 t608)) (fun _ hk => hk.2) (.string t609)) (fun _ hk => hk.1.2)⟩, ⟨kq_ BK601⟩, ⟨kq_ BK607⟩, ⟨kq_ BK615⟩, ⟨bw_ HB⟩⟩
     ·have H' := Aside0.mk H
      clear H
      go_wp2
      go_meet
      case rel => exact ⟨_, (true), e1_, H', ⟨by have := HK1.out; first | omega | exact Nat.le_refl _⟩, ⟨by (with_reducible repeat (first | apply Kd.R_alloc | apply Kd.R_drewN | apply Kd.R_drew)); exact Kd.R_mono (Kd.R_far (p := ⟨gb615, 1, none⟩) (Kd.R_far (p := ⟨gb615, 0, none⟩) (Kd.R_types HO612.out BK615.out (by decide)) (fun _ hk => hk.2) (.int .i64 t608)) (fun _ hk => hk.2) (.string t609)) (fun _ hk => hk.1.2)⟩, ⟨by (with_reducible repeat (first | apply Kd.R_alloc | apply Kd.R_drewN | apply Kd.R_drew)); exact Kd.R_mono (Kd.R_far (p := ⟨gb615, 1, none⟩) (Kd.R_far (p := ⟨gb615, 0, none⟩) (Kd.R_types HO_608000.out BK615.out (by decide)) (fun _ hk => hk.2) (.int .i64 t608)) (fun _ hk => hk.2) (.string t609)) (fun _ hk => hk.1.2)⟩, ⟨kq_ BK601⟩, ⟨kq_ BK607⟩, ⟨kq_ BK615⟩, ⟨bw_ HB⟩⟩
    case rest =>
     clear HC11
     try clear c1
     try clear p2
     try clear c7
     try clear c9b0
     try clear hz16
     try clear hz8
     obtain ⟨kq, x33_10, rfl, HA, HJ10, HO_7, HO_608000, BK601, BK607, BK615, HB⟩ := hcut
     cases kq with
     | zero => exact absurd HA.out (by simp [spec_l12Replay.j1])
     | succ kj10 =>
      have H := HA.out
      clear HA
      simp only [spec_l12Replay.j1] at H
      replace H := itb_ H; obtain ⟨rfl, H⟩ | ⟨rfl, H⟩ := H
      ·replace H := so4_ H; obtain ⟨rfl, rfl, rfl, rfl⟩ := H
       have hnb24 := NB607_601.out
       have hnc24 := NB601_607.out
       have hnb25 := NB607_615.out
       have hnc25 := NB615_607.out
       have hz26 := cz3_ BK607
       obtain ⟨Ao27, co27, eo27⟩ := Kd.R_slice HO_608000.out
       subst eo27
       have hnb28 := NB601_615.out
       have hnc28 := NB615_601.out
       have hz29 := cz3_ BK601
       go_wp2
       refine bodyPost_ret (results_ct rfl _ _ gb601 39 #[.slice Ao27 x608000_1.length co27, .int .i64 x608001_1, .string x608002_1] (0, 0) _ rfl (by exact kq_ BK601) Tryz.underlying39 rfl (by kernel_rfl)) rfl ?_
       exact ⟨_, e2_, by (with_reducible repeat (first | apply Kd.R_alloc | apply Kd.R_drewN | apply Kd.R_drew)); exact Kd.R_mono (Kd.R_far (p := ⟨gb601, 2, none⟩) (Kd.R_far (p := ⟨gb601, 1, none⟩) (Kd.R_far (p := ⟨gb601, 0, none⟩) (Kd.R_types HO_608000.out BK601.out (by decide)) (fun _ hk => hk.2) (.slice Ao27 x608000_1.length co27)) (fun _ hk => hk.2) (.int .i64 x608001_1)) (fun _ hk => hk.2) (.string x608002_1)) (fun _ hk => trivial), bw_ HB⟩
      ·replace H := ip_ H; obtain ⟨c30, H⟩ := H
       have LMc30 := Aside0.mk c30
       clear c30
       obtain ⟨y616, Ny616, H⟩ := sb_ (x608000_1 ++ t610) H
       replace H := bi_ H; obtain ⟨⟨t619, t620⟩, A31, H⟩ := H
       dsimp only at H
       replace H := it_ H; obtain ⟨c32, H⟩ | ⟨c32, H⟩ := H
       ·have c32b0 : (!(t608 == t619) || (!(t609.toList == t620.toList))) = true := c32
        clear c32
        replace H := so4_ H; obtain ⟨rfl, rfl, rfl, rfl⟩ := H
        have hnb33 := NB607_601.out
        have hnc33 := NB601_607.out
        have hnb34 := NB607_615.out
        have hnc34 := NB615_607.out
        have hz35 := cz3_ BK607
        obtain ⟨Ao37, co37, eo37⟩ := Kd.R_slice HO_7.out
        subst eo37
        try go_wp2_with (first | ((with_reducible refine gate_builtin (b := .append) (xs := #[.tmp 36, .tmp 37]) rfl ?_); (try (refine gate_guard (by rfl) ?_; dsimp only)); at_builtin; refine Kd.R_append_rows Kd.string (w0 := w) w.heap.size rfl (.tmp 36) (.tmp 37) 22 9 (.string ⟨#[]⟩) 16 rfl Tryz.underlying22 info9 rfl (by decide) (by omega) u608000 x608000_1 t610 _ _ _ (fun k_ => some k_ ≠ (.slice Ao37 t610.length co37 : Value).ownBlock) (fun _ => False) rfl rfl ?aO ?aR (fun _ _ h => h) (fun _ h => h.elim) ?aF ?aB ?aS ?aL ?_; (case aR => repeat (first | exact (Kd.R_reads' HO_7.out).2.2 | (with_reducible refine Kd.C_alloc ?_ _) | (with_reducible refine Kd.C_drewN ?_ _) | (with_reducible refine Kd.C_drew ?_))); (case aB => exact (bw_ HB)); (case aF => exact (fun k_ hk => Kd.fresh' (lt_ HO_7) k_ hk)); (case aO => exact (kr_ HO_608000.out)); (case aS => exact (sz_ HB)); (case aL => have := LMc30.out; omega); intro v617 w36 ho hb hg hat; rw [← Ny616.out] at ho; replace HO_7 := Aside0.mk (Kd.R_after (ok := (fun _ => True)) (kr_ (Kd.R_mono HO_7.out (fun _ hk => ⟨trivial, hk⟩))) hg hat); replace BK601 := kg_ BK601 HO_608000 hg; replace BK607 := kg_ BK607 HO_608000 hg; replace BK615 := kg_ BK615 HO_608000 hg; replace HB := Aside0.mk hb; have HO618 := Aside0.mk ho; clear HO_608000; clear ho hb hg hat; obtain ⟨Ao38, co38, eo38⟩ := Kd.R_slice HO618.out; subst eo38; have hz39 := cz3_ BK607; have hnb40 := NB615_601.out; have hnc40 := NB601_615.out; have hz41 := cz2_ BK615))
        have n0_ : Aside0 (Kd.R Kd.string 9 (((w36.setCell ⟨gb607, 0, none⟩ (.slice Ao38 y616.length co38)).setCell ⟨gb607, 1, none⟩ (.int .i64 t608)).setCell ⟨gb607, 2, none⟩ (.string t609)) w.heap.size (fun k_ => some k_ ≠ (.slice Ao38 y616.length co38 : Value).ownBlock) (.slice Ao37 t610.length co37) t610) := ⟨by (with_reducible repeat (first | apply Kd.R_alloc | apply Kd.R_drewN | apply Kd.R_drew)); exact Kd.R_mono (Kd.R_far (p := ⟨gb607, 2, none⟩) (Kd.R_far (p := ⟨gb607, 1, none⟩) (Kd.R_far (p := ⟨gb607, 0, none⟩) (Kd.R_types HO_7.out BK607.out (by decide)) (fun _ hk => hk.2) (.slice Ao38 y616.length co38)) (fun _ hk => hk.2) (.int .i64 t608)) (fun _ hk => hk.2) (.string t609)) (fun _ hk => hk.1.2)⟩
        have n1_ : Aside0 (Kd.R Kd.string 9 (((w36.setCell ⟨gb607, 0, none⟩ (.slice Ao38 y616.length co38)).setCell ⟨gb607, 1, none⟩ (.int .i64 t608)).setCell ⟨gb607, 2, none⟩ (.string t609)) w.heap.size (fun k_ => some k_ ≠ (.slice Ao37 t610.length co37 : Value).ownBlock) (.slice Ao38 y616.length co38) y616) := ⟨by (with_reducible repeat (first | apply Kd.R_alloc | apply Kd.R_drewN | apply Kd.R_drew)); exact Kd.R_mono (Kd.R_far (p := ⟨gb607, 2, none⟩) (Kd.R_far (p := ⟨gb607, 1, none⟩) (Kd.R_far (p := ⟨gb607, 0, none⟩) (Kd.R_types HO618.out BK607.out (by decide)) (fun _ hk => hk.2) (.slice Ao38 y616.length co38)) (fun _ hk => hk.2) (.int .i64 t608)) (fun _ hk => hk.2) (.string t609)) (fun _ hk => hk.1)⟩
        have n2_ : Aside0 ((((w36.setCell ⟨gb607, 0, none⟩ (.slice Ao38 y616.length co38)).setCell ⟨gb607, 1, none⟩ (.int .i64 t608)).setCell ⟨gb607, 2, none⟩ (.string t609)).heap[gb601]? = some (.cells #[.slice none 0 0, .int .i64 x602001_1, .string x602002_1] 39 (0, 0))) := ⟨kq_ BK601⟩
        have n3_ : Aside0 ((((w36.setCell ⟨gb607, 0, none⟩ (.slice Ao38 y616.length co38)).setCell ⟨gb607, 1, none⟩ (.int .i64 t608)).setCell ⟨gb607, 2, none⟩ (.string t609)).heap[gb607]? = some (.cells #[.slice Ao38 y616.length co38, .int .i64 t608, .string t609] 39 (0, 0))) := ⟨kq_ BK607⟩
        have n4_ : Aside0 ((((w36.setCell ⟨gb607, 0, none⟩ (.slice Ao38 y616.length co38)).setCell ⟨gb607, 1, none⟩ (.int .i64 t608)).setCell ⟨gb607, 2, none⟩ (.string t609)).heap[gb615]? = some (.cells #[.int .i64 t608, .string t609] 37 (0, 0))) := ⟨kq_ BK615⟩
        have n5_ : Aside0 (Below w.heap.size w (((w36.setCell ⟨gb607, 0, none⟩ (.slice Ao38 y616.length co38)).setCell ⟨gb607, 1, none⟩ (.int .i64 t608)).setCell ⟨gb607, 2, none⟩ (.string t609))) := ⟨bw_ HB⟩
        generalize (((w36.setCell ⟨gb607, 0, none⟩ (.slice Ao38 y616.length co38)).setCell ⟨gb607, 1, none⟩ (.int .i64 t608)).setCell ⟨gb607, 2, none⟩ (.string t609)) = w42 at n0_ n1_ n2_ n3_ n4_ n5_ ⊢
        have HO_7 := n0_
        have HO618 := n1_
        have BK601 := n2_
        have BK607 := n3_
        have BK615 := n4_
        have HB := n5_
        clear n0_ n1_ n2_ n3_ n4_ n5_
        replace HO_7 := Aside0.mk (Kd.R_drew HO_7.out)
        replace HO618 := Aside0.mk (Kd.R_drew HO618.out)
        replace BK601 := Aside0.mk (blk_drew BK601.out)
        replace BK607 := Aside0.mk (blk_drew BK607.out)
        replace BK615 := Aside0.mk (blk_drew BK615.out)
        replace HB := Aside0.mk (below_drew1 HB.out)
        refine start_ (n := 5) (S := fun w' => w'.cell? ⟨gb615, 0, none⟩ = some (.int .i64 t608) ∧ w'.cell? ⟨gb615, 1, none⟩ = some (.string t609) ∧ w'.cell? ⟨gb607, 0, none⟩ = some (.slice Ao38 y616.length co38) ∧ w'.cell? ⟨gb607, 1, none⟩ = some (.int .i64 t608) ∧ w'.cell? ⟨gb607, 2, none⟩ = some (.string t609)) (ds := []) (lz_ 5 0) (by kernel_rfl) rfl rfl ⟨bc0_ BK615.out, bc1_ BK615.out, bc0_ BK607.out, bc1_ BK607.out, bc2_ BK607.out⟩ (fun hHeld => ?_)
        generalize w42.drew = w43 at HO_7 HO618 BK601 BK607 BK615 HB hHeld ⊢
        refine pk_ 1 44 2 ?_
        refine tk_ 0 43 3 ?_
        refine tk_ 2 45 7 ?_
        refine one_ (i := 3) (N := some 46) (lz_ 5 15) rfl rfl (by kernel_rfl) (by decide) (fun K hK => ?_)
        refine gf_ Tryz.func110 (spec_HeadOf.calls kj10 _ _ y616 t619 t620 _ (ch_ HO618) (cl_ HO618) A31.out) ?_
        rintro e w44 ⟨rfl, hb⟩
        refine ⟨_, rfl, ?_⟩
        replace HO_7 := rb_ HO_7 hb
        replace HO618 := rb_ HO618 hb
        replace BK601 := kl_ BK601 hb
        replace BK607 := kl_ BK607 hb
        replace BK615 := kl_ BK615 hb
        replace HB := ss_ HB hb
        clear hb
        refine hK.out _ _ ⟨bc0_ BK615.out, bc1_ BK615.out, bc0_ BK607.out, bc1_ BK607.out, bc2_ BK607.out⟩ (fun hHeld => ?_)
        clear hK K
        refine no_ 46 ?_
        refine pk_ 4 47 31 ?_
        refine done_ (by kernel_rfl) ?_
        have hz45 := cz3_ BK607
        have hz46 := cz3_ BK601
        try go_wp2
        refine bodyPost_ret (results_ct rfl _ _ gb601 39 #[.slice Ao38 y616.length co38, .int .i64 t608, .string t609] (0, 0) _ rfl (by exact kq_ BK601) Tryz.underlying39 rfl (by kernel_rfl)) rfl ?_
        exact ⟨_, e2_, by (with_reducible repeat (first | apply Kd.R_alloc | apply Kd.R_drewN | apply Kd.R_drew)); exact Kd.R_mono (Kd.R_far (p := ⟨gb601, 2, none⟩) (Kd.R_far (p := ⟨gb601, 1, none⟩) (Kd.R_far (p := ⟨gb601, 0, none⟩) (Kd.R_types HO618.out BK601.out (by decide)) (fun _ hk => hk.2) (.slice Ao38 y616.length co38)) (fun _ hk => hk.2) (.int .i64 t608)) (fun _ hk => hk.2) (.string t609)) (fun _ hk => trivial), bw_ HB⟩
       ·have c32b0 : (!(t608 == t619) || (!(t609.toList == t620.toList))) = false := by simpa using c32
        clear c32
        have H' := Aside0.mk H
        clear H
        have hnb47 := NB607_601.out
        have hnc47 := NB601_607.out
        have hnb48 := NB607_615.out
        have hnc48 := NB615_607.out
        have hz49 := cz3_ BK607
        obtain ⟨Ao51, co51, eo51⟩ := Kd.R_slice HO_7.out
        subst eo51
        try go_wp2_with (first | ((with_reducible refine gate_builtin (b := .append) (xs := #[.tmp 36, .tmp 37]) rfl ?_); (try (refine gate_guard (by rfl) ?_; dsimp only)); at_builtin; refine Kd.R_append_rows Kd.string (w0 := w) w.heap.size rfl (.tmp 36) (.tmp 37) 22 9 (.string ⟨#[]⟩) 16 rfl Tryz.underlying22 info9 rfl (by decide) (by omega) u608000 x608000_1 t610 _ _ _ (fun k_ => some k_ ≠ (.slice Ao51 t610.length co51 : Value).ownBlock) (fun _ => False) rfl rfl ?aO ?aR (fun _ _ h => h) (fun _ h => h.elim) ?aF ?aB ?aS ?aL ?_; (case aR => repeat (first | exact (Kd.R_reads' HO_7.out).2.2 | (with_reducible refine Kd.C_alloc ?_ _) | (with_reducible refine Kd.C_drewN ?_ _) | (with_reducible refine Kd.C_drew ?_))); (case aB => exact (bw_ HB)); (case aF => exact (fun k_ hk => Kd.fresh' (lt_ HO_7) k_ hk)); (case aO => exact (kr_ HO_608000.out)); (case aS => exact (sz_ HB)); (case aL => have := LMc30.out; omega); intro v617 w50 ho hb hg hat; rw [← Ny616.out] at ho; replace HO_7 := Aside0.mk (Kd.R_after (ok := (fun _ => True)) (kr_ (Kd.R_mono HO_7.out (fun _ hk => ⟨trivial, hk⟩))) hg hat); replace BK601 := kg_ BK601 HO_608000 hg; replace BK607 := kg_ BK607 HO_608000 hg; replace BK615 := kg_ BK615 HO_608000 hg; replace HB := Aside0.mk hb; have HO618 := Aside0.mk ho; clear HO_608000; clear ho hb hg hat; obtain ⟨Ao52, co52, eo52⟩ := Kd.R_slice HO618.out; subst eo52; have hz53 := cz3_ BK607; have hnb54 := NB615_601.out; have hnc54 := NB601_615.out; have hz55 := cz2_ BK615))
        have n0_ : Aside0 (Kd.R Kd.string 9 (((w50.setCell ⟨gb607, 0, none⟩ (.slice Ao52 y616.length co52)).setCell ⟨gb607, 1, none⟩ (.int .i64 t608)).setCell ⟨gb607, 2, none⟩ (.string t609)) w.heap.size (fun k_ => some k_ ≠ (.slice Ao52 y616.length co52 : Value).ownBlock) (.slice Ao51 t610.length co51) t610) := ⟨by (with_reducible repeat (first | apply Kd.R_alloc | apply Kd.R_drewN | apply Kd.R_drew)); exact Kd.R_mono (Kd.R_far (p := ⟨gb607, 2, none⟩) (Kd.R_far (p := ⟨gb607, 1, none⟩) (Kd.R_far (p := ⟨gb607, 0, none⟩) (Kd.R_types HO_7.out BK607.out (by decide)) (fun _ hk => hk.2) (.slice Ao52 y616.length co52)) (fun _ hk => hk.2) (.int .i64 t608)) (fun _ hk => hk.2) (.string t609)) (fun _ hk => hk.1.2)⟩
        have n1_ : Aside0 (Kd.R Kd.string 9 (((w50.setCell ⟨gb607, 0, none⟩ (.slice Ao52 y616.length co52)).setCell ⟨gb607, 1, none⟩ (.int .i64 t608)).setCell ⟨gb607, 2, none⟩ (.string t609)) w.heap.size (fun k_ => some k_ ≠ (.slice Ao51 t610.length co51 : Value).ownBlock) (.slice Ao52 y616.length co52) y616) := ⟨by (with_reducible repeat (first | apply Kd.R_alloc | apply Kd.R_drewN | apply Kd.R_drew)); exact Kd.R_mono (Kd.R_far (p := ⟨gb607, 2, none⟩) (Kd.R_far (p := ⟨gb607, 1, none⟩) (Kd.R_far (p := ⟨gb607, 0, none⟩) (Kd.R_types HO618.out BK607.out (by decide)) (fun _ hk => hk.2) (.slice Ao52 y616.length co52)) (fun _ hk => hk.2) (.int .i64 t608)) (fun _ hk => hk.2) (.string t609)) (fun _ hk => hk.1)⟩
        have n2_ : Aside0 ((((w50.setCell ⟨gb607, 0, none⟩ (.slice Ao52 y616.length co52)).setCell ⟨gb607, 1, none⟩ (.int .i64 t608)).setCell ⟨gb607, 2, none⟩ (.string t609)).heap[gb601]? = some (.cells #[.slice none 0 0, .int .i64 x602001_1, .string x602002_1] 39 (0, 0))) := ⟨kq_ BK601⟩
        have n3_ : Aside0 ((((w50.setCell ⟨gb607, 0, none⟩ (.slice Ao52 y616.length co52)).setCell ⟨gb607, 1, none⟩ (.int .i64 t608)).setCell ⟨gb607, 2, none⟩ (.string t609)).heap[gb607]? = some (.cells #[.slice Ao52 y616.length co52, .int .i64 t608, .string t609] 39 (0, 0))) := ⟨kq_ BK607⟩
        have n4_ : Aside0 ((((w50.setCell ⟨gb607, 0, none⟩ (.slice Ao52 y616.length co52)).setCell ⟨gb607, 1, none⟩ (.int .i64 t608)).setCell ⟨gb607, 2, none⟩ (.string t609)).heap[gb615]? = some (.cells #[.int .i64 t608, .string t609] 37 (0, 0))) := ⟨kq_ BK615⟩
        have n5_ : Aside0 (Below w.heap.size w (((w50.setCell ⟨gb607, 0, none⟩ (.slice Ao52 y616.length co52)).setCell ⟨gb607, 1, none⟩ (.int .i64 t608)).setCell ⟨gb607, 2, none⟩ (.string t609))) := ⟨bw_ HB⟩
        generalize (((w50.setCell ⟨gb607, 0, none⟩ (.slice Ao52 y616.length co52)).setCell ⟨gb607, 1, none⟩ (.int .i64 t608)).setCell ⟨gb607, 2, none⟩ (.string t609)) = w56 at n0_ n1_ n2_ n3_ n4_ n5_ ⊢
        have HO_7 := n0_
        have HO618 := n1_
        have BK601 := n2_
        have BK607 := n3_
        have BK615 := n4_
        have HB := n5_
        clear n0_ n1_ n2_ n3_ n4_ n5_
        replace HO_7 := Aside0.mk (Kd.R_drew HO_7.out)
        replace HO618 := Aside0.mk (Kd.R_drew HO618.out)
        replace BK601 := Aside0.mk (blk_drew BK601.out)
        replace BK607 := Aside0.mk (blk_drew BK607.out)
        replace BK615 := Aside0.mk (blk_drew BK615.out)
        replace HB := Aside0.mk (below_drew1 HB.out)
        refine start_ (n := 5) (S := fun w' => w'.cell? ⟨gb615, 0, none⟩ = some (.int .i64 t608) ∧ w'.cell? ⟨gb615, 1, none⟩ = some (.string t609) ∧ w'.cell? ⟨gb607, 0, none⟩ = some (.slice Ao52 y616.length co52) ∧ w'.cell? ⟨gb607, 1, none⟩ = some (.int .i64 t608) ∧ w'.cell? ⟨gb607, 2, none⟩ = some (.string t609)) (ds := []) (lz_ 5 0) (by kernel_rfl) rfl rfl ⟨bc0_ BK615.out, bc1_ BK615.out, bc0_ BK607.out, bc1_ BK607.out, bc2_ BK607.out⟩ (fun hHeld => ?_)
        generalize w56.drew = w57 at HO_7 HO618 BK601 BK607 BK615 HB hHeld ⊢
        refine pk_ 1 44 2 ?_
        refine tk_ 0 43 3 ?_
        refine tk_ 2 45 7 ?_
        refine one_ (i := 3) (N := some 46) (lz_ 5 15) rfl rfl (by kernel_rfl) (by decide) (fun K hK => ?_)
        refine gf_ Tryz.func110 (spec_HeadOf.calls kj10 _ _ y616 t619 t620 _ (ch_ HO618) (cl_ HO618) A31.out) ?_
        rintro e w58 ⟨rfl, hb⟩
        refine ⟨_, rfl, ?_⟩
        replace HO_7 := rb_ HO_7 hb
        replace HO618 := rb_ HO618 hb
        replace BK601 := kl_ BK601 hb
        replace BK607 := kl_ BK607 hb
        replace BK615 := kl_ BK615 hb
        replace HB := ss_ HB hb
        clear hb
        refine hK.out _ _ ⟨bc0_ BK615.out, bc1_ BK615.out, bc0_ BK607.out, bc1_ BK607.out, bc2_ BK607.out⟩ (fun hHeld => ?_)
        clear hK K
        refine no_ 46 ?_
        refine pk_ 4 47 31 ?_
        refine done_ (by kernel_rfl) ?_
        try go_wp2
        go_roundg kj10
        case measure => have := HK1.out; have := HJ10.out; omega
        case rel => exact ⟨(t613), (x602001_1), (x602002_1), (y616), (t608), (t609), (.slice Ao52 y616.length co52), e1_, H', ⟨by have := HK1.out; have := HJ10.out; omega⟩, ⟨by (with_reducible repeat (first | apply Kd.R_alloc | apply Kd.R_drewN | apply Kd.R_drew)); exact Kd.R_mono HO618.out (fun _ hk => trivial)⟩, ⟨kb_ BK601.out⟩, ⟨kb_ BK607.out⟩, ⟨bw_ HB⟩⟩
   ·replace H := so4_ H; obtain ⟨rfl, rfl, rfl, rfl⟩ := H
    have hnb59 := NB607_601.out
    have hnc59 := NB601_607.out
    have hz60 := cz3_ BK607
    obtain ⟨Ao61, co61, eo61⟩ := Kd.R_slice HO_608000.out
    subst eo61
    have hz62 := cz3_ BK601
    go_wp2
    refine bodyPost_ret (results_ct rfl _ _ gb601 39 #[.slice Ao61 x608000_1.length co61, .int .i64 x608001_1, .string x608002_1] (0, 0) _ rfl (by exact kq_ BK601) Tryz.underlying39 rfl (by kernel_rfl)) rfl ?_
    exact ⟨_, e2_, by (with_reducible repeat (first | apply Kd.R_alloc | apply Kd.R_drewN | apply Kd.R_drew)); exact Kd.R_mono (Kd.R_far (p := ⟨gb601, 2, none⟩) (Kd.R_far (p := ⟨gb601, 1, none⟩) (Kd.R_far (p := ⟨gb601, 0, none⟩) (Kd.R_types HO_608000.out BK601.out (by decide)) (fun _ hk => hk.2) (.slice Ao61 x608000_1.length co61)) (fun _ hk => hk.2) (.int .i64 x608001_1)) (fun _ hk => hk.2) (.string x608002_1)) (fun _ hk => trivial), bw_ HB⟩
end Go.Proofs.YtnlndmoecljicaaGreat.Q
end
section
namespace Go.Proofs.YtnlndmoecljicaaGreat.Q
open Go.RowKit Go.Proofs.YtnlndmoecljicaaGreatW.PrintWords Go.Proofs.YtnlndmoecljicaaGreatW.PrintLast Go.Proofs.YtnlndmoecljicaaGreatW.PrintMore
attribute [local go_sem] max2_int min2_int max_two min_two max_three min_three max_four min_four   -- for this text's walks alone
set_option linter.unusedVariables false
set_option linter.unusedSimpArgs false
def spec_StoreOk.j0 : Nat → Bool → List ByteArray → Int → ByteArray → List Int → Int → Option (Bool)
 | 0, _, _, _, _, _, _ => none
 | k + 1, x23, x602000, x602001, x602002, x602003, x602004 => if x23 = true then (some false) else ((spec_l12Replay.f k x602003).bind fun bt604 => (if bt604.2.2.2 = true then ((spec_l8Same.f k bt604.1 x602000).bind fun t611 => (some t611)) else (some false)))
def spec_StoreOk.f (k : Nat) (l0_0 : List ByteArray) (a0_1 : Int) (a0_2 : ByteArray) (l0_3 : List Int) (a0_4 : Int) : Option (Bool) := (spec_LogOk.f k l0_0 a0_1 a0_2).bind fun t602 => (if t602 = true then (if (l0_3.length : Int) > 60000 then (spec_StoreOk.j0 k true l0_0 a0_1 a0_2 l0_3 a0_4) else ((spec_l1In.f a0_4 0 (l0_3.length : Int)).bind fun t603 => (spec_StoreOk.j0 k (!t603) l0_0 a0_1 a0_2 l0_3 a0_4))) else (spec_StoreOk.j0 k true l0_0 a0_1 a0_2 l0_3 a0_4))
set_option maxHeartbeats 8000000 in
set_option maxRecDepth 100000 in
theorem spec_StoreOk.calls (k : Nat) (A0_0 : Option Addr) (c0_0 : Nat) (l0_0 : List ByteArray) (a0_1 : Int) (a0_2 : ByteArray) (A0_3 : Option Addr) (c0_3 : Nat) (l0_3 : List Int) (a0_4 : Int) (r : Bool) (w : World) (hr0_0 : Kd.C Kd.string w A0_0 l0_0.length l0_0) (hc0_0 : l0_0.length ≤ c0_0) (hr0_3 : Kd.C (Kd.int .u8) w A0_3 l0_3.length l0_3) (hc0_3 : l0_3.length ≤ c0_3) (h : spec_StoreOk.f k l0_0 a0_1 a0_2 l0_3 a0_4 = some r) :
  Calls Tryz.prog 73 #[.agg #[.slice A0_0 l0_0.length c0_0, .int .i64 a0_1, .string a0_2, .slice A0_3 l0_3.length c0_3, .int .i64 a0_4]] w fun e w' => e = .returned (.bool r) ∧ Below w.heap.size w w' := by
 have hu41 := Tryz.underlying41
 have hu39 := Tryz.underlying39
 have HR0_0 := Aside0.mk hr0_0
 have HC0_0 := Aside0.mk hc0_0
 clear hr0_0 hc0_0
 have HR0_3 := Aside0.mk hr0_3
 have HC0_3 := Aside0.mk hc0_3
 clear hr0_3 hc0_3
 have HB := Aside0.mk (Below.refl w.heap.size w)
 have H : ((spec_LogOk.f k l0_0 a0_1 a0_2).bind fun t602 => (if t602 = true then (if (l0_3.length : Int) > 60000 then (spec_StoreOk.j0 k true l0_0 a0_1 a0_2 l0_3 a0_4) else ((spec_l1In.f a0_4 0 (l0_3.length : Int)).bind fun t603 => (spec_StoreOk.j0 k (!t603) l0_0 a0_1 a0_2 l0_3 a0_4))) else (spec_StoreOk.j0 k true l0_0 a0_1 a0_2 l0_3 a0_4))) = some r := h
 clear h
 have HC2 := Aside0.mk H
 clear H
 go_enter Tryz.func73, Tryz.ntmps73
 go_upto_region 1 with (first | ((with_reducible refine gd_ 1 ?_); (try (refine gate_guard (by rfl) ?_; dsimp only)); refine bx_ 1 41 #[.slice A0_0 l0_0.length c0_0, .int .i64 a0_1, .string a0_2, .slice A0_3 l0_3.length c0_3, .int .i64 a0_4] ?_; intro gb601 hg w3 hbox hb; have BK601 := Aside0.mk hbox; have GW601 := gg_ hg HB; have GE601 := GW601; replace HB := ss_ HB hb; clear hb hbox hg))
 (try simp only [Act.put, List.setIfInBounds_toArray, List.set_cons_zero, List.set_cons_succ])
 go_cut [23] (fun v23 wc => ∃ (kq : Nat) (x23_1 : Bool), v23 = .bool x23_1 ∧ Aside0 (spec_StoreOk.j0 kq x23_1 l0_0 a0_1 a0_2 l0_3 a0_4 = some r) ∧ Aside0 (kq ≤ k) ∧ Aside0 (wc.heap[gb601]? = some (.cells #[(.slice A0_0 l0_0.length c0_0), .int .i64 a0_1, .string a0_2, (.slice A0_3 l0_3.length c0_3), .int .i64 a0_4] 41 (0, 0))) ∧ Aside0 (Below w.heap.size w wc))
 case first =>
  have H := HC2.out
  clear HC2
  replace H := bi_ H; obtain ⟨t602, A4, H⟩ := H
  replace H := itb_ H; obtain ⟨rfl, H⟩ | ⟨rfl, H⟩ := H
  ·replace H := it_ H; obtain ⟨c6, H⟩ | ⟨c6, H⟩ := H
   ·have c6b0 : decide (60000 < (l0_3.length : Int)) = true := decide_eq_true c6
    have c6b1 : decide (60000 < l0_3.length) = true := decide_eq_true (by omega)
    clear c6
    (first | rw [c6b0] | (simp only [i64_w, i32_w]; rw [c6b0]) | rw [c6b1] | skip)
    have H' := Aside0.mk H
    clear H
    have hz7 := cz5_ BK601
    go_wp2_with (first | ((with_reducible refine gq_ 107 7 ?_); refine gc_ 7 Tryz.func107 (spec_LogOk.calls k _ _ l0_0 a0_1 a0_2 true _ (cb_ HR0_0 HB) HC0_0.out A4.out) ?_; rintro e w8 ⟨rfl, hb⟩; refine ⟨_, rfl, ?_⟩; replace BK601 := kl_ BK601 hb; replace HB := ss_ HB hb; clear hb; have hz9 := cz5_ BK601))
    go_meet
    case rel => exact ⟨_, (true), e1_, H', ⟨le_⟩, ⟨kb_ BK601.out⟩, ⟨bw_ HB⟩⟩
   ·have c6b0 : decide (60000 < (l0_3.length : Int)) = false := decide_eq_false c6
    have c6b1 : decide (60000 < l0_3.length) = false := decide_eq_false (by omega)
    clear c6
    (first | rw [c6b0] | (simp only [i64_w, i32_w]; rw [c6b0]) | rw [c6b1] | skip)
    replace H := bi_ H; obtain ⟨t603, A10, H⟩ := H
    have H' := Aside0.mk H
    clear H
    have hz11 := cz5_ BK601
    go_wp2_with (first | ((with_reducible refine gq_ 107 7 ?_); refine gc_ 7 Tryz.func107 (spec_LogOk.calls k _ _ l0_0 a0_1 a0_2 true _ (cb_ HR0_0 HB) HC0_0.out A4.out) ?_; rintro e w12 ⟨rfl, hb⟩; refine ⟨_, rfl, ?_⟩; replace BK601 := kl_ BK601 hb; replace HB := ss_ HB hb; clear hb; have hz13 := cz5_ BK601) | (go_at_call 72; (with_reducible refine (spec_l1In.calls a0_4 0 (l0_3.length : Int) t603 _ A10.out).mono ?_); rintro e w' ⟨rfl, ⟨nd, rfl⟩⟩))
    go_meet
    case rel => exact ⟨_, (!t603), e1_, H', ⟨le_⟩, ⟨kb_ BK601.out⟩, ⟨bw_ HB⟩⟩
  ·have H' := Aside0.mk H
   clear H
   have hz14 := cz5_ BK601
   go_wp2_with (first | ((with_reducible refine gq_ 107 7 ?_); refine gc_ 7 Tryz.func107 (spec_LogOk.calls k _ _ l0_0 a0_1 a0_2 false _ (cb_ HR0_0 HB) HC0_0.out A4.out) ?_; rintro e w15 ⟨rfl, hb⟩; refine ⟨_, rfl, ?_⟩; replace BK601 := kl_ BK601 hb; replace HB := ss_ HB hb; clear hb))
   go_meet
   case rel => exact ⟨_, (true), e1_, H', ⟨le_⟩, ⟨kb_ BK601.out⟩, ⟨bw_ HB⟩⟩
 case rest =>
  clear HC2
  obtain ⟨kq, x23_1, rfl, HA, HJ1, BK601, HB⟩ := hcut
  cases kq with
  | zero => exact absurd HA.out (by simp [spec_StoreOk.j0])
  | succ kj1 =>
   have H := HA.out
   clear HA
   simp only [spec_StoreOk.j0] at H
   replace H := itb_ H; obtain ⟨rfl, H⟩ | ⟨rfl, H⟩ := H
   ·obtain rfl := Option.some.inj H
    go_wp2
    go_ret
    exact ⟨e2_, bw_ HB⟩
   ·replace H := bi_ H; obtain ⟨⟨t604, t607, t608, t609⟩, A17, H⟩ := H
    dsimp only at H
    replace H := itb_ H; obtain ⟨rfl, H⟩ | ⟨rfl, H⟩ := H
    ·replace H := bi_ H; obtain ⟨t611, A19, H⟩ := H
     obtain rfl := Option.some.inj H
     have hz20 := cz5_ BK601
     go_wp2_with (first | ((with_reducible refine gq_ 108 27 ?_); refine gc_ 27 Tryz.func108 (spec_l12Replay.calls kj1 _ _ l0_3 t604 t607 t608 true _ (cb_ HR0_3 HB) HC0_3.out A17.out) ?_; rintro e w21 ⟨v605, rfl, ho0, hb⟩; refine ⟨_, rfl, ?_⟩; have HO606 := Aside0.mk (Kd.R_lower ho0 (sz_ HB)); replace BK601 := kl_ BK601 hb; replace HB := ss_ HB hb; clear hb ho0) | ((with_reducible refine gd_ 3 ?_); (try (refine gate_guard (by rfl) ?_; dsimp only)); refine bx_ 3 39 #[.slice none 0 0, .int .i64 0, .string (⟨#[]⟩ : ByteArray)] ?_; intro gb610 hg w22 hbox hb; replace HO606 := rb_ HO606 hb; have BK610 := Aside0.mk hbox; have GW610 := gg_ hg HB; have GE610 := GW610; replace HB := ss_ HB hb; have NB601_610 := nla_ hg BK601; have NB610_601 := nga_ hg BK601; replace BK601 := kl_ BK601 hb; clear hb hbox hg; obtain ⟨Ao23, co23, eo23⟩ := Kd.R_slice HO606.out; subst eo23; have hnb24 := NB610_601.out; have hnc24 := NB601_610.out; have hz25 := cz3_ BK610; have hz26 := cz5_ BK601) | (go_at_call 109; (with_reducible refine (spec_l8Same.calls kj1 _ _ t604 _ _ l0_0 t611 _ ?side1 ?side2 ?side3 ?side4 A19.out).mono ?_); (case side1 => exact chf_ HO606 BK610); (case side2 => exact (cl_ HO606)); (case side3 => exact Kd.C_below HR0_0.out (bw_ HB)); (case side4 => exact HC0_0.out); rintro e w' ⟨rfl, ⟨nd, rfl⟩⟩))
     go_ret
     exact ⟨e2_, bw_ HB⟩
    ·obtain rfl := Option.some.inj H
     have hz27 := cz5_ BK601
     go_wp2_with (first | ((with_reducible refine gq_ 108 27 ?_); refine gc_ 27 Tryz.func108 (spec_l12Replay.calls kj1 _ _ l0_3 t604 t607 t608 false _ (cb_ HR0_3 HB) HC0_3.out A17.out) ?_; rintro e w28 ⟨v605, rfl, ho0, hb⟩; refine ⟨_, rfl, ?_⟩; have HO606 := Aside0.mk (Kd.R_lower ho0 (sz_ HB)); replace BK601 := kl_ BK601 hb; replace HB := ss_ HB hb; clear hb ho0) | ((with_reducible refine gd_ 3 ?_); (try (refine gate_guard (by rfl) ?_; dsimp only)); refine bx_ 3 39 #[.slice none 0 0, .int .i64 0, .string (⟨#[]⟩ : ByteArray)] ?_; intro gb610 hg w29 hbox hb; replace HO606 := rb_ HO606 hb; have BK610 := Aside0.mk hbox; have GW610 := gg_ hg HB; have GE610 := GW610; replace HB := ss_ HB hb; have NB601_610 := nla_ hg BK601; have NB610_601 := nga_ hg BK601; replace BK601 := kl_ BK601 hb; clear hb hbox hg; obtain ⟨Ao30, co30, eo30⟩ := Kd.R_slice HO606.out; subst eo30; have hnb31 := NB610_601.out; have hnc31 := NB601_610.out; have hz32 := cz3_ BK610))
     go_ret
     exact ⟨e2_, bw_ HB⟩
end Go.Proofs.YtnlndmoecljicaaGreat.Q
end
section
namespace Go.Proofs.YtnlndmoecljicaaGreat.Q
open Go.RowKit Go.Proofs.YtnlndmoecljicaaGreat.B Go.Proofs.YtnlndmoecljicaaGreatW.PrintWords Go.Proofs.YtnlndmoecljicaaGreatW.PrintMore
set_option linter.unusedVariables false
set_option linter.unusedSimpArgs false
theorem log_new : Ev (fun k => spec_LogNew.f k) (([] : List ByteArray), (headOf []).1, (headOf []).2) := by
 unfold spec_LogNew.f
 exact Ev.bind (spec_HeadOf_ev [] (by simp)) (Ev.now _)
theorem ev_uniq {α : Type} {g : Nat → Option α} {r q : α} (h : Ev g r) (k : Ev g q) : r = q := by
 obtain ⟨K, h⟩ := h
 obtain ⟨M, k⟩ := k
 exact Option.some.inj ((h (max K M) (Nat.le_max_left _ _)).symm.trans (k (max K M) (Nat.le_max_right _ _)))
theorem getCommit_step (b : List Int) (hb : InB b) (hl : b.length ≤ 1048576) (a : Nat) (ha : a ≤ b.length) :
  ∃ n s t nx ok, Ev (fun q => spec_GetCommit.f q b (a : Int)) (n, s, t, nx, ok) ∧ Ev (fun q => impl_GetCommit.f q b (a : Int)) (n, s, t, nx, ok) ∧ t.length ≤ 200 ∧ (∀ x ∈ t, x.size ≤ bigB) ∧
   (ok = true → ∃ c : Nat, nx = (c : Int) ∧ a < c ∧ c ≤ b.length) ∧ (ok = false → t = []) := by
 obtain ⟨n, s, t, nx, ok, e1, ht, c1, c2⟩ := getCommitI b hb (by omega) (a : Int) (by omega) (by omega)
 obtain ⟨n', s', t', nx', ok', e2, e3, _⟩ := getCommit_both b hb (by omega) (a : Int) (by omega) (by omega)
 have h := ev_uniq e3 e1
 simp only [Prod.mk.injEq] at h
 obtain ⟨rfl, rfl, rfl, rfl, rfl⟩ := h
 refine ⟨_, _, _, _, _, e2, e1, ht, ?_, ?_, ?_⟩
 ·cases hok : ok' with
  | true =>
   obtain ⟨a', N, h1, rfl, _, _, hd, _, hle⟩ := c1 hok
   intro x hx
   have h2 := commitB_length N s' t'
   have h3 := bodyB_ge N s' t'
   have h4 := total_mem hx
   unfold bigB
   omega
  | false =>
   obtain ⟨_, _, rfl, _⟩ := c2 hok
   intro x hx
   cases hx
 ·intro hok
  obtain ⟨a', N, h1, rfl, _, _, hd, h2, hle⟩ := c1 hok
  have h3 := commitB_length N s' t'
  exact ⟨_, h2, by omega, hle⟩
 ·intro hok
  exact (c2 hok).2.2.1
theorem sizes_app {l t : List ByteArray} (h : ∀ x ∈ l, x.size ≤ bigB) (k : ∀ x ∈ t, x.size ≤ bigB) : ∀ x ∈ l ++ t, x.size ≤ bigB := fun x hx => (List.mem_append.1 hx).elim (h x) (k x)
theorem impl_many (b : List Int) (hb : InB b) (hl : b.length ≤ 1048576) (L : List ByteArray) (hL : L.length ≤ 200) (N : Int) (S : ByteArray) (U : Int) : ∀ (m a : Nat) (T : List ByteArray), b.length - a ≤ m → a ≤ b.length → 200 < T.length → T.length + 200 * (b.length - a) ≤ 1000000000 → (∀ x ∈ T, x.size ≤ bigB) →
  Ev (fun k => impl_StoreOk.l0 k T (a : Int) L N S b U) false := by
 intro m
 induction m with
 | zero =>
  intro a T h1 h2 h3 h4 h5
  refine Ev.step (fun k => by simp only [impl_StoreOk.l0]; rfl) ?_
  refine Ev.neg (by omega) (Ev.bind (impl_same_ev T L (by omega)) ?_)
  rw [decide_eq_false (fun e => by rw [e] at h3; omega)]
  exact Ev.now _
 | succ m ih =>
  intro a T h1 h2 h3 h4 h5
  refine Ev.step (fun k => by simp only [impl_StoreOk.l0]; rfl) ?_
  by_cases ha : (a : Int) < (b.length : Int)
  ·obtain ⟨n, s, t, nx, ok, e1, e2, ht, hs, c1, c2⟩ := getCommit_step b hb hl a h2
   refine Ev.pos ha (Ev.bind e2 ?_)
   simp only
   refine Ev.pos (by omega) ?_
   simp only [Option.bind_some]
   cases ok with
   | false => exact Ev.neg (by simp) (Ev.now _)
   | true =>
    obtain ⟨c, rfl, h6, h7⟩ := c1 rfl
    refine Ev.pos rfl (Ev.bind (impl_HeadOf_ev (T ++ t) (sizes_app h5 hs)) ?_)
    by_cases hh : (!(n == (headOf (T ++ t)).1) || (!(s.toList == (headOf (T ++ t)).2.toList))) = true
    ·exact Ev.pos hh (Ev.now _)
    ·refine Ev.neg hh (ih c (T ++ t) (by omega) h7 (by rw [List.length_append]; omega) (by rw [List.length_append]; omega) (sizes_app h5 hs))
  ·refine Ev.neg ha (Ev.bind (impl_same_ev T L (by omega)) ?_)
   rw [decide_eq_false (fun e => by rw [e] at h3; omega)]
   exact Ev.now _
theorem replay_both (b : List Int) (hb : InB b) (hl : b.length ≤ 1048576) (L : List ByteArray) (hL : L.length ≤ 200) (N : Int) (S : ByteArray) (U : Int) : ∀ (m a : Nat) (T : List ByteArray) (n : Int) (s : ByteArray), b.length - a ≤ m → a ≤ b.length → T.length ≤ 200 → (∀ x ∈ T, x.size ≤ bigB) →
  ∃ T' n' s' ok, Ev (fun k => spec_l12Replay.l0 k b (a : Int) T n s) (T', n', s', ok) ∧ T'.length ≤ 200 ∧ (∀ x ∈ T', x.size ≤ bigB) ∧ Ev (fun k => impl_StoreOk.l0 k T (a : Int) L N S b U) (if ok = true then decide (T' = L) else false) := by
 intro m
 induction m with
 | zero =>
  intro a T n s h1 h2 h3 h5
  refine ⟨T, n, s, true, ?_, h3, h5, ?_⟩
  ·refine Ev.step (fun k => by simp only [spec_l12Replay.l0]; rfl) ?_
   exact Ev.neg (by omega) (Ev.now _)
  ·refine Ev.step (fun k => by simp only [impl_StoreOk.l0]; rfl) ?_
   exact Ev.neg (by omega) (Ev.bind (impl_same_ev T L (by omega)) (Ev.now _))
 | succ m ih =>
  intro a T n s h1 h2 h3 h5
  by_cases ha : (a : Int) < (b.length : Int)
  ·obtain ⟨n1, s1, t, nx, ok, e1, e2, ht, hs, c1, c2⟩ := getCommit_step b hb hl a h2
   cases ok with
   | false =>
    refine ⟨T, n, s, false, ?_, h3, h5, ?_⟩
    ·refine Ev.step (fun k => by simp only [spec_l12Replay.l0]; rfl) ?_
     refine Ev.pos ha (Ev.bind e1 (Ev.neg (by simp) ?_))
     refine Ev.step (fun k => by simp only [spec_l12Replay.j1]; rfl) ?_
     exact Ev.pos trivial (Ev.now _)
    ·refine Ev.step (fun k => by simp only [impl_StoreOk.l0]; rfl) ?_
     refine Ev.pos ha (Ev.bind e2 (Ev.pos (by simp only; omega) ?_))
     simp only [Option.bind_some]
     exact Ev.neg (by simp) (Ev.now _)
   | true =>
    obtain ⟨c, rfl, h6, h7⟩ := c1 rfl
    have hw : wrap64 ((T.length : Int) + (t.length : Int)) = ((T.length + t.length : Nat) : Int) := by
     rw [w64 (by omega) (by omega)]
     omega
    have hsz := sizes_app h5 hs
    have hI : ∀ r, Ev (fun k => if (!(n1 == (headOf (T ++ t)).1) || (!(s1.toList == (headOf (T ++ t)).2.toList))) = true then some false else impl_StoreOk.l0 k (T ++ t) (c : Int) L N S b U) r → Ev (fun k => impl_StoreOk.l0 k T (a : Int) L N S b U) r := by
     intro r hr
     refine Ev.step (fun k => by simp only [impl_StoreOk.l0]; rfl) ?_
     refine Ev.pos ha (Ev.bind e2 (Ev.pos (by simp only; omega) ?_))
     simp only [Option.bind_some]
     exact Ev.pos trivial (Ev.bind (impl_HeadOf_ev (T ++ t) hsz) hr)
    by_cases hm : T.length + t.length ≤ 200
    ·have hS : ∀ r, Ev (fun k => if (!(n1 == (headOf (T ++ t)).1) || (!(s1.toList == (headOf (T ++ t)).2.toList))) = true then some (T ++ t, n1, s1, false) else spec_l12Replay.l0 k b (c : Int) (T ++ t) n1 s1) r → Ev (fun k => spec_l12Replay.l0 k b (a : Int) T n s) r := by
      intro r hr
      refine Ev.step (fun k => by simp only [spec_l12Replay.l0]; rfl) ?_
      refine Ev.pos ha (Ev.bind e1 (Ev.pos rfl ?_))
      simp only [hw]
      rw [decide_eq_false (by omega)]
      refine Ev.step (fun k => by simp only [spec_l12Replay.j1]; rfl) ?_
      refine Ev.neg (by simp) (Ev.pos (by omega) ?_)
      simp only [Option.bind_some]
      exact Ev.bind (spec_HeadOf_ev (T ++ t) hsz) hr
     have hlen : (T ++ t).length ≤ 200 := by rw [List.length_append]; exact hm
     by_cases hh : (!(n1 == (headOf (T ++ t)).1) || (!(s1.toList == (headOf (T ++ t)).2.toList))) = true
     ·exact ⟨_, _, _, false, hS _ (Ev.pos hh (Ev.now _)), hlen, hsz, hI _ (Ev.pos hh (Ev.now _))⟩
     ·obtain ⟨T', n', s', ok, f1, f2, f3, f4⟩ := ih c (T ++ t) n1 s1 (by omega) h7 hlen hsz
      exact ⟨T', n', s', ok, hS _ (Ev.neg hh f1), f2, f3, hI _ (Ev.neg hh f4)⟩
    ·refine ⟨T, n, s, false, ?_, h3, h5, ?_⟩
     ·refine Ev.step (fun k => by simp only [spec_l12Replay.l0]; rfl) ?_
      refine Ev.pos ha (Ev.bind e1 (Ev.pos rfl ?_))
      simp only [hw]
      rw [decide_eq_true (by omega)]
      refine Ev.step (fun k => by simp only [spec_l12Replay.j1]; rfl) ?_
      exact Ev.pos trivial (Ev.now _)
     ·refine hI _ ?_
      by_cases hh : (!(n1 == (headOf (T ++ t)).1) || (!(s1.toList == (headOf (T ++ t)).2.toList))) = true
      ·exact Ev.pos hh (Ev.now _)
      ·exact Ev.neg hh (impl_many b hb hl L hL N S U (b.length - c) c (T ++ t) (Nat.le_refl _) h7 (by rw [List.length_append]; omega) (by rw [List.length_append]; omega) hsz)
  ·refine ⟨T, n, s, true, ?_, h3, h5, ?_⟩
   ·refine Ev.step (fun k => by simp only [spec_l12Replay.l0]; rfl) ?_
    exact Ev.neg ha (Ev.now _)
   ·refine Ev.step (fun k => by simp only [impl_StoreOk.l0]; rfl) ?_
    exact Ev.neg ha (Ev.bind (impl_same_ev T L (by omega)) (Ev.now _))
theorem storeOk_both (l : List ByteArray) (n : Int) (s : ByteArray) (b : List Int) (u : Int) (hb : InB b) (hl : b.length ≤ 1048576) (hs : ∀ x ∈ l, x.size ≤ bigB) :
  ∃ r, Ev (fun k => spec_StoreOk.f k l n s b u) r ∧ Ev (fun k => impl_StoreOk.f k l n s b u) r := by
 have jS : Ev (fun k => spec_StoreOk.j0 k true l n s b u) false := by
  refine Ev.step (fun k => by simp only [spec_StoreOk.j0]; rfl) ?_
  exact Ev.pos trivial (Ev.now _)
 have jI : Ev (fun k => impl_StoreOk.j0 k true l n s b u) false := by
  refine Ev.step (fun k => by simp only [impl_StoreOk.j0]; rfl) ?_
  exact Ev.pos trivial (Ev.now _)
 have lS := spec_LogOk_ev l n s hs
 have lI := impl_LogOk_ev l n s hs
 unfold spec_StoreOk.f impl_StoreOk.f
 by_cases h1 : logOk l n s = true
 ·by_cases h2 : (b.length : Int) > 60000
  ·exact ⟨false, Ev.bind lS (Ev.pos h1 (Ev.pos h2 jS)), Ev.bind lI (Ev.pos h1 (Ev.pos h2 jI))⟩
  ·have hlen : l.length ≤ 200 := by
    unfold logOk at h1
    by_cases h : (l.length : Int) ≤ 200
    ·omega
    ·rw [if_neg h] at h1
     cases h1
   have iS : spec_l1In.f u 0 (b.length : Int) = some (decide (0 ≤ u) && decide (u ≤ (b.length : Int))) := by
    unfold spec_l1In.f
    by_cases h : u ≥ 0
    ·rw [if_pos h, decide_eq_true h]
     rfl
    ·rw [if_neg h, decide_eq_false h]
     rfl
   have iI : impl_inRange.f u 0 (b.length : Int) = some (decide (0 ≤ u) && decide (u ≤ (b.length : Int))) := by
    unfold impl_inRange.f
    by_cases h : u ≥ 0
    ·rw [if_pos h, decide_eq_true h]
     rfl
    ·rw [if_neg h, decide_eq_false h]
     rfl
   have fin : ∀ q : Bool, ∃ r, Ev (fun k => spec_StoreOk.j0 k (!q) l n s b u) r ∧ Ev (fun k => impl_StoreOk.j0 k (!q) l n s b u) r := by
    intro q
    cases q with
    | false => exact ⟨false, jS, jI⟩
    | true =>
     obtain ⟨T', n', s', ok, f1, f2, f3, f4⟩ := replay_both b hb hl l hlen n s u b.length 0 [] (headOf []).1 (headOf []).2 (by omega) (by omega) (by simp) (by simp)
     have fI : Ev (fun k => impl_StoreOk.j0 k (!true) l n s b u) (if ok = true then decide (T' = l) else false) := by
      refine Ev.step (fun k => by simp only [impl_StoreOk.j0]; rfl) ?_
      exact Ev.neg (by simp) f4
     have rS : Ev (fun k => spec_l12Replay.f k b) (T', n', s', ok) := by
      unfold spec_l12Replay.f
      exact Ev.bind log_new f1
     refine ⟨_, ?_, fI⟩
     refine Ev.step (fun k => by simp only [spec_StoreOk.j0]; rfl) ?_
     refine Ev.neg (by simp) (Ev.bind rS ?_)
     cases ok with
     | true => exact Ev.pos rfl (Ev.bind (spec_same_ev T' l (by omega)) (Ev.now _))
     | false => exact Ev.neg (by simp) (Ev.now _)
   obtain ⟨r, r1, r2⟩ := fin (decide (0 ≤ u) && decide (u ≤ (b.length : Int)))
   exact ⟨r, Ev.bind lS (Ev.pos h1 (Ev.neg h2 (Ev.bind (Ev.const iS) r1))), Ev.bind lI (Ev.pos h1 (Ev.neg h2 (Ev.bind (Ev.const iI) r2)))⟩
 ·exact ⟨false, Ev.bind lS (Ev.neg h1 jS), Ev.bind lI (Ev.neg h1 jI)⟩
end Go.Proofs.YtnlndmoecljicaaGreat.Q
end
section
namespace Go.Proofs.YtnlndmoecljicaaGreat.Q
open Go.RowKit Go.Proofs.YtnlndmoecljicaaGreatW.PrintWords Go.Proofs.YtnlndmoecljicaaGreatW.PrintLast Go.Proofs.YtnlndmoecljicaaGreatW.PrintMore
attribute [local go_sem] max2_int min2_int max_two min_two max_three min_three max_four min_four   -- for this text's walks alone
set_option linter.unusedVariables false
set_option linter.unusedSimpArgs false
attribute [local go_sem high] eqA37
def spec_IsSigned.l0 : Nat → List (S37) → Int → Int → ByteArray → Option (Bool)
 | 0, _, _, _, _ => none
 | k + 1, x0, x5, x602000, x602001 => if x5 < (x0.length : Int) then (if 0 ≤ x5 then (if (((rd_T37 x0 x5).f0) == x602000 && ((((rd_T37 x0 x5).f1).toList) == x602001.toList)) = true then (some true) else (spec_IsSigned.l0 k x0 (wrap64 (x5 + 1)) x602000 x602001)) else (none)) else (some false)
def spec_IsSigned.f (k : Nat) (l0 : List (S37)) (a1_0 : Int) (a1_1 : ByteArray) : Option (Bool) := spec_IsSigned.l0 k l0 0 a1_0 a1_1
set_option maxHeartbeats 8000000 in
set_option maxRecDepth 100000 in
theorem spec_IsSigned.calls (k : Nat) (A0 : Option Addr) (c0 : Nat) (l0 : List (S37)) (a1_0 : Int) (a1_1 : ByteArray) (r : Bool) (w : World) (hr0 : Kd.C k37 w A0 l0.length l0) (hc0 : l0.length ≤ c0) (h : spec_IsSigned.f k l0 a1_0 a1_1 = some r) :
  Calls Tryz.prog 111 #[.slice A0 l0.length c0, .agg #[.int .i64 a1_0, .string a1_1]] w fun e w' => e = .returned (.bool r) ∧ Below w.heap.size w w' := by
 have hu37 := Tryz.underlying37
 have HR0 := Aside0.mk hr0
 have HC0 := Aside0.mk hc0
 clear hr0 hc0
 have HB := Aside0.mk (Below.refl w.heap.size w)
 have H : (spec_IsSigned.l0 k l0 0 a1_0 a1_1) = some r := h
 clear h
 have H' := Aside0.mk H
 clear H
 go_enter Tryz.func111, Tryz.ntmps111
 go_wp2_with (first | ((with_reducible refine gd_ 3 ?_); refine bx_ 3 37 #[.int .i64 a1_0, .string a1_1] ?_; intro gb601 hg w3 hbox hb; have BK601 := Aside0.mk hbox; have GW601 := gg_ hg HB; have GE601 := GW601; replace HB := ss_ HB hb; clear hb hbox hg))
 repeat (go_quiet (first | ((with_reducible refine gd_ 3 ?_); refine bx_ 3 37 #[.int .i64 a1_0, .string a1_1] ?_; intro gb601 hg w3 hbox hb; have BK601 := Aside0.mk hbox; have GW601 := gg_ hg HB; have GE601 := gg_ hg HB; replace HB := ss_ HB hb; clear hb hbox hg)); try go_wp2_with (first | ((with_reducible refine gd_ 3 ?_); refine bx_ 3 37 #[.int .i64 a1_0, .string a1_1] ?_; intro gb601 hg w3 hbox hb; have BK601 := Aside0.mk hbox; have GW601 := gg_ hg HB; have GE601 := GW601; replace HB := ss_ HB hb; clear hb hbox hg)))
 go_loopg [5] k (fun kq v5 w' => ∃ (x5_1 : Int), v5 = .int .i64 x5_1 ∧ Aside0 (spec_IsSigned.l0 kq l0 x5_1 a1_0 a1_1 = some r) ∧ Aside0 (kq ≤ k) ∧ Aside0 (w'.heap[gb601]? = some (.cells #[.int .i64 a1_0, .string a1_1] 37 (0, 0))) ∧ Aside0 (Below w.heap.size w w'))
 case atStart => exact ⟨(0), e1_, H', ⟨Nat.le_refl _⟩, ⟨kb_ BK601.out⟩, ⟨bw_ HB⟩⟩
 case round =>
  clear H'
  obtain ⟨x5_1, rfl, HA, HK1, BK601, HB⟩ := hrel
  cases gk with
  | zero => exact absurd HA.out (by simp [spec_IsSigned.l0])
  | succ k1 =>
   have H := HA.out
   clear HA
   simp only [spec_IsSigned.l0] at H
   replace H := itd_ H; obtain ⟨c4b0, H⟩ | ⟨c4b0, H⟩ := H
   ·replace H := ipd_ H; obtain ⟨c5b0, H⟩ := H
    replace H := it_ H; obtain ⟨c6, H⟩ | ⟨c6, H⟩ := H
    ·have c6b0 : (((rd_T37 l0 x5_1).f0) == a1_0 && ((((rd_T37 l0 x5_1).f1).toList) == a1_1.toList)) = true := c6
     (try (have c6b1 : decide (((rd_T37 l0 x5_1).f0) = a1_0 && ((((rd_T37 l0 x5_1).f1).toList) == a1_1.toList)) = true := by simpa using c6))
     (try (have c6b2 : (((rd_T37 l0 x5_1).f0) == a1_0 && ((((rd_T37 l0 x5_1).f1).toList) == a1_1.toList)) = true := by simpa using c6))
     clear c6
     obtain rfl := Option.some.inj H
     have p602 : 0 ≤ (x5_1 : Int) := of_decide_eq_true as_
     have q602 : x5_1 < (l0.length : Int) := of_decide_eq_true as_
     obtain ⟨ad602, e602, hx602_0, hx602_1⟩ := at_T37 HR0.out x5_1 p602 q602
     cases e602
     replace hx602_0 := cw_ HB hx602_0
     replace hx602_1 := cw_ HB hx602_1
     replace p602 := eq_true p602
     replace q602 := eq_true q602
     have hz7 := cz2_ BK601
     go_wp2
     repeat (go_quiet (fail); try go_wp2)
     go_ret
     exact ⟨e2_, bw_ HB⟩
    ·have c6b0 : (((rd_T37 l0 x5_1).f0) == a1_0 && ((((rd_T37 l0 x5_1).f1).toList) == a1_1.toList)) = false := by simpa using c6
     (try (have c6b1 : decide (((rd_T37 l0 x5_1).f0) = a1_0 && ((((rd_T37 l0 x5_1).f1).toList) == a1_1.toList)) = false := by simpa using c6))
     (try (have c6b2 : (((rd_T37 l0 x5_1).f0) == a1_0 && ((((rd_T37 l0 x5_1).f1).toList) == a1_1.toList)) = false := by simpa using c6))
     (try (have c6b3 : ¬ (((rd_T37 l0 x5_1).f0) = a1_0 && ((((rd_T37 l0 x5_1).f1).toList) == a1_1.toList)) := by simpa using c6))
     clear c6
     have H' := Aside0.mk H
     clear H
     have p602 : 0 ≤ (x5_1 : Int) := of_decide_eq_true as_
     have q602 : x5_1 < (l0.length : Int) := of_decide_eq_true as_
     obtain ⟨ad602, e602, hx602_0, hx602_1⟩ := at_T37 HR0.out x5_1 p602 q602
     cases e602
     replace hx602_0 := cw_ HB hx602_0
     replace hx602_1 := cw_ HB hx602_1
     replace p602 := eq_true p602
     replace q602 := eq_true q602
     have hz8 := cz2_ BK601
     go_wp2
     repeat (go_quiet (fail); try go_wp2)
     go_roundg k1
     case measure => have := HK1.out; omega
     case rel => exact ⟨(wrap64 (x5_1 + 1)), e1_, H', ⟨by have := HK1.out; omega⟩, ⟨kb_ BK601.out⟩, ⟨bw_ HB⟩⟩
   ·obtain rfl := Option.some.inj H
    go_wp2
    repeat (go_quiet (fail); try go_wp2)
    go_ret
    exact ⟨e2_, bw_ HB⟩
def impl_Head_152.l0 : Nat → List (S37) → Int → Int → Int → ByteArray → Option (Int)
 | 0, _, _, _, _, _ => none
 | k + 1, x0, x7, x8, x602000, x602001 => if x8 < x7 then (if 0 ≤ x8 then (if x8 < (x0.length : Int) then (if (x602000 == ((rd_T37 x0 x8).f0) && (x602001.toList == (((rd_T37 x0 x8).f1).toList))) = true then (some x8) else (impl_Head_152.l0 k x0 x7 (wrap64 (x8 + 1)) x602000 x602001)) else (none)) else (none)) else (some (-1))
def impl_Head_152.f (k : Nat) (l0 : List (S37)) (a1_0 : Int) (a1_1 : ByteArray) : Option (Int) := impl_Head_152.l0 k l0 (l0.length : Int) 0 a1_0 a1_1
set_option maxHeartbeats 8000000 in
set_option maxRecDepth 100000 in
theorem impl_Head_152.calls (k : Nat) (A0 : Option Addr) (c0 : Nat) (l0 : List (S37)) (a1_0 : Int) (a1_1 : ByteArray) (r : Int) (w : World) (hr0 : Kd.C k37 w A0 l0.length l0) (hc0 : l0.length ≤ c0) (h : impl_Head_152.f k l0 a1_0 a1_1 = some r) :
  Calls Tryz.prog 152 #[.slice A0 l0.length c0, .agg #[.int .i64 a1_0, .string a1_1]] w fun e w' => e = .returned (.int .i64 r) ∧ Below w.heap.size w w' := by
 have hu37 := Tryz.underlying37
 have HR0 := Aside0.mk hr0
 have HC0 := Aside0.mk hc0
 clear hr0 hc0
 have HB := Aside0.mk (Below.refl w.heap.size w)
 have H : (impl_Head_152.l0 k l0 (l0.length : Int) 0 a1_0 a1_1) = some r := h
 clear h
 have H' := Aside0.mk H
 clear H
 go_enter Tryz.func152, Tryz.ntmps152
 go_wp2_with (first | ((with_reducible refine gd_ 3 ?_); refine bx_ 3 37 #[.int .i64 a1_0, .string a1_1] ?_; intro gb601 hg w3 hbox hb; have BK601 := Aside0.mk hbox; have GW601 := gg_ hg HB; have GE601 := GW601; replace HB := ss_ HB hb; clear hb hbox hg))
 repeat (go_quiet (first | ((with_reducible refine gd_ 3 ?_); refine bx_ 3 37 #[.int .i64 a1_0, .string a1_1] ?_; intro gb601 hg w3 hbox hb; have BK601 := Aside0.mk hbox; have GW601 := gg_ hg HB; have GE601 := gg_ hg HB; replace HB := ss_ HB hb; clear hb hbox hg)); try go_wp2_with (first | ((with_reducible refine gd_ 3 ?_); refine bx_ 3 37 #[.int .i64 a1_0, .string a1_1] ?_; intro gb601 hg w3 hbox hb; have BK601 := Aside0.mk hbox; have GW601 := gg_ hg HB; have GE601 := GW601; replace HB := ss_ HB hb; clear hb hbox hg)))
 go_loopg [8] k (fun kq v8 w' => ∃ (x8_1 : Int), v8 = .int .i64 x8_1 ∧ Aside0 (impl_Head_152.l0 kq l0 (l0.length : Int) x8_1 a1_0 a1_1 = some r) ∧ Aside0 (kq ≤ k) ∧ Aside0 (w'.heap[gb601]? = some (.cells #[.int .i64 a1_0, .string a1_1] 37 (0, 0))) ∧ Aside0 (Below w.heap.size w w'))
 case atStart => exact ⟨(0), e1_, H', ⟨Nat.le_refl _⟩, ⟨kb_ BK601.out⟩, ⟨bw_ HB⟩⟩
 case round =>
  clear H'
  obtain ⟨x8_1, rfl, HA, HK1, BK601, HB⟩ := hrel
  cases gk with
  | zero => exact absurd HA.out (by simp [impl_Head_152.l0])
  | succ k1 =>
   have H := HA.out
   clear HA
   simp only [impl_Head_152.l0] at H
   replace H := itd_ H; obtain ⟨c4b0, H⟩ | ⟨c4b0, H⟩ := H
   ·replace H := ipd_ H; obtain ⟨c5b0, H⟩ := H
    replace H := ipd_ H; obtain ⟨c6b0, H⟩ := H
    replace H := it_ H; obtain ⟨c7, H⟩ | ⟨c7, H⟩ := H
    ·have c7b0 : (a1_0 == ((rd_T37 l0 x8_1).f0) && (a1_1.toList == (((rd_T37 l0 x8_1).f1).toList))) = true := c7
     (try (have c7b1 : decide (a1_0 = ((rd_T37 l0 x8_1).f0) && (a1_1.toList == (((rd_T37 l0 x8_1).f1).toList))) = true := by simpa using c7))
     (try (have c7b2 : (a1_0 == ((rd_T37 l0 x8_1).f0) && (a1_1.toList == (((rd_T37 l0 x8_1).f1).toList))) = true := by simpa using c7))
     clear c7
     obtain rfl := Option.some.inj H
     have hz8 := cz2_ BK601
     have p602 : 0 ≤ (x8_1 : Int) := of_decide_eq_true as_
     have q602 : x8_1 < (l0.length : Int) := of_decide_eq_true as_
     obtain ⟨ad602, e602, hx602_0, hx602_1⟩ := at_T37 HR0.out x8_1 p602 q602
     cases e602
     replace hx602_0 := cw_ HB hx602_0
     replace hx602_1 := cw_ HB hx602_1
     replace p602 := eq_true p602
     replace q602 := eq_true q602
     go_wp2
     repeat (go_quiet (fail); try go_wp2)
     go_ret
     exact ⟨e2_, bw_ HB⟩
    ·have c7b0 : (a1_0 == ((rd_T37 l0 x8_1).f0) && (a1_1.toList == (((rd_T37 l0 x8_1).f1).toList))) = false := by simpa using c7
     (try (have c7b1 : decide (a1_0 = ((rd_T37 l0 x8_1).f0) && (a1_1.toList == (((rd_T37 l0 x8_1).f1).toList))) = false := by simpa using c7))
     (try (have c7b2 : (a1_0 == ((rd_T37 l0 x8_1).f0) && (a1_1.toList == (((rd_T37 l0 x8_1).f1).toList))) = false := by simpa using c7))
     (try (have c7b3 : ¬ (a1_0 = ((rd_T37 l0 x8_1).f0) && (a1_1.toList == (((rd_T37 l0 x8_1).f1).toList))) := by simpa using c7))
     clear c7
     have H' := Aside0.mk H
     clear H
     have hz9 := cz2_ BK601
     have p602 : 0 ≤ (x8_1 : Int) := of_decide_eq_true as_
     have q602 : x8_1 < (l0.length : Int) := of_decide_eq_true as_
     obtain ⟨ad602, e602, hx602_0, hx602_1⟩ := at_T37 HR0.out x8_1 p602 q602
     cases e602
     replace hx602_0 := cw_ HB hx602_0
     replace hx602_1 := cw_ HB hx602_1
     replace p602 := eq_true p602
     replace q602 := eq_true q602
     go_wp2
     repeat (go_quiet (fail); try go_wp2)
     go_roundg k1
     case measure => have := HK1.out; omega
     case rel => exact ⟨(wrap64 (x8_1 + 1)), e1_, H', ⟨by have := HK1.out; omega⟩, ⟨kb_ BK601.out⟩, ⟨bw_ HB⟩⟩
   ·obtain rfl := Option.some.inj H
    go_wp2
    repeat (go_quiet (fail); try go_wp2)
    go_ret
    exact ⟨e2_, bw_ HB⟩
end Go.Proofs.YtnlndmoecljicaaGreat.Q
end
section
namespace Go.Proofs.YtnlndmoecljicaaGreat.Q
open Go.RowKit Go.Proofs.YtnlndmoecljicaaGreatW.PrintWords Go.Proofs.YtnlndmoecljicaaGreatW.PrintLast Go.Proofs.YtnlndmoecljicaaGreatW.PrintMore
attribute [local go_sem] max2_int min2_int max_two min_two max_three min_three max_four min_four   -- for this text's walks alone
set_option linter.unusedVariables false
set_option linter.unusedSimpArgs false
def impl_Head_129.f (k : Nat) (l0 : List (S37)) (a1_0 : Int) (a1_1 : ByteArray) : Option (Bool) := (impl_Head_152.f k l0 a1_0 a1_1).bind fun t602 => (some (decide (t602 ≥ 0)))
set_option maxHeartbeats 8000000 in
set_option maxRecDepth 100000 in
theorem impl_Head_129.calls (k : Nat) (A0 : Option Addr) (c0 : Nat) (l0 : List (S37)) (a1_0 : Int) (a1_1 : ByteArray) (r : Bool) (w : World) (hr0 : Kd.C k37 w A0 l0.length l0) (hc0 : l0.length ≤ c0) (h : impl_Head_129.f k l0 a1_0 a1_1 = some r) :
  Calls Tryz.prog 129 #[.slice A0 l0.length c0, .agg #[.int .i64 a1_0, .string a1_1]] w fun e w' => e = .returned (.bool r) ∧ Below w.heap.size w w' := by
 have hu37 := Tryz.underlying37
 have HR0 := Aside0.mk hr0
 have HC0 := Aside0.mk hc0
 clear hr0 hc0
 have HB := Aside0.mk (Below.refl w.heap.size w)
 have H : ((impl_Head_152.f k l0 a1_0 a1_1).bind fun t602 => (some (decide (t602 ≥ 0)))) = some r := h
 clear h
 replace H := bi_ H; obtain ⟨t602, A3, H⟩ := H
 obtain rfl := Option.some.inj H
 go_enter Tryz.func129, Tryz.ntmps129
 go_wp2_with (first | ((with_reducible refine gd_ 3 ?_); refine bx_ 3 37 #[.int .i64 a1_0, .string a1_1] ?_; intro gb601 hg w4 hbox hb; have BK601 := Aside0.mk hbox; have GW601 := gg_ hg HB; have GE601 := GW601; replace HB := ss_ HB hb; clear hb hbox hg; have hz5 := cz2_ BK601) | ((with_reducible refine gq_ 152 7 ?_); refine gc_ 7 Tryz.func152 (impl_Head_152.calls k _ _ l0 a1_0 a1_1 t602 _ (cb_ HR0 HB) HC0.out A3.out) ?_; rintro e w6 ⟨rfl, hb⟩; refine ⟨_, rfl, ?_⟩; replace BK601 := kl_ BK601 hb; replace HB := ss_ HB hb; clear hb))
 go_ret
 exact ⟨e2_, bw_ HB⟩
def impl_IsSigned.f (k : Nat) (l0 : List (S37)) (a1_0 : Int) (a1_1 : ByteArray) : Option (Bool) := (impl_Head_129.f k l0 a1_0 a1_1).bind fun t602 => (some t602)
set_option maxHeartbeats 8000000 in
set_option maxRecDepth 100000 in
theorem impl_IsSigned.calls (k : Nat) (A0 : Option Addr) (c0 : Nat) (l0 : List (S37)) (a1_0 : Int) (a1_1 : ByteArray) (r : Bool) (w : World) (hr0 : Kd.C k37 w A0 l0.length l0) (hc0 : l0.length ≤ c0) (h : impl_IsSigned.f k l0 a1_0 a1_1 = some r) :
  Calls Tryz.prog 96 #[.slice A0 l0.length c0, .agg #[.int .i64 a1_0, .string a1_1]] w fun e w' => e = .returned (.bool r) ∧ Below w.heap.size w w' := by
 have hu37 := Tryz.underlying37
 have HR0 := Aside0.mk hr0
 have HC0 := Aside0.mk hc0
 clear hr0 hc0
 have HB := Aside0.mk (Below.refl w.heap.size w)
 have H : ((impl_Head_129.f k l0 a1_0 a1_1).bind fun t602 => (some t602)) = some r := h
 clear h
 replace H := bi_ H; obtain ⟨t602, A3, H⟩ := H
 obtain rfl := Option.some.inj H
 go_enter Tryz.func96, Tryz.ntmps96
 go_wp2_with (first | ((with_reducible refine gd_ 3 ?_); refine bx_ 3 37 #[.int .i64 a1_0, .string a1_1] ?_; intro gb601 hg w4 hbox hb; have BK601 := Aside0.mk hbox; have GW601 := gg_ hg HB; have GE601 := GW601; replace HB := ss_ HB hb; clear hb hbox hg; have hz5 := cz2_ BK601) | ((with_reducible refine gq_ 129 7 ?_); refine gc_ 7 Tryz.func129 (impl_Head_129.calls k _ _ l0 a1_0 a1_1 t602 _ (cb_ HR0 HB) HC0.out A3.out) ?_; rintro e w6 ⟨rfl, hb⟩; refine ⟨_, rfl, ?_⟩; replace BK601 := kl_ BK601 hb; replace HB := ss_ HB hb; clear hb))
 go_ret
 exact ⟨e2_, bw_ HB⟩
end Go.Proofs.YtnlndmoecljicaaGreat.Q
end
section
namespace Go.Proofs.YtnlndmoecljicaaGreat.Q
open Go.RowKit Go.Proofs.YtnlndmoecljicaaGreat.B Go.Proofs.YtnlndmoecljicaaGreatW.PrintWords
def hasHead (l : List IHead) (a : Int) (b : ByteArray) : Bool := l.any fun x => x.f0 == a && (x.f1.toList == b.toList)
theorem rdI {l : List IHead} {i : Nat} {x : IHead} (h : l[i]? = some x) : rd_T37 l (i : Int) = x := by
 unfold rd_T37
 simp [List.getD_eq_getElem?_getD, h]
theorem next64 {i n : Nat} (h : i < n) (hn : n ≤ 9223372036854775807) : wrap64 ((i : Int) + 1) = ((i + 1 : Nat) : Int) := by
 rw [w64 (by omega) (by omega)]
 omega
theorem spec_IsSigned_ev (l : List IHead) (a : Int) (b : ByteArray) (hl : l.length ≤ 9223372036854775807) : Ev (fun k => spec_IsSigned.f k l a b) (hasHead l a b) := by
 have main : ∀ (d i : Nat), i + d = l.length → Ev (fun k => spec_IsSigned.l0 k l (i : Int) a b) (hasHead (l.drop i) a b) := by
  intro d
  induction d with
  | zero =>
   intro i hi
   refine Ev.step (f := fun _ => some false) (fun k => ?_) (Ev.one (Ev.now _) ?_)
   ·simp only [spec_IsSigned.l0]
    rw [if_neg (by omega)]
   ·rw [List.drop_of_length_le (by omega)]
    rfl
  | succ d ih =>
   intro i hi
   obtain ⟨x, hx⟩ := get_some (l := l) (i := i) (by omega)
   by_cases h : (x.f0 == a && (x.f1.toList == b.toList)) = true
   ·refine Ev.step (f := fun _ => some true) (fun k => ?_) (Ev.one (Ev.now _) ?_)
    ·simp only [spec_IsSigned.l0]
     rw [if_pos (by omega), if_pos (by omega), rdI hx, if_pos h]
    ·rw [drop_one hx]
     simp only [hasHead, List.any_cons, h, Bool.true_or]
   ·refine Ev.step (fun k => ?_) (Ev.one (ih (i + 1) (by omega)) ?_)
    ·simp only [spec_IsSigned.l0]
     rw [if_pos (by omega), if_pos (by omega), rdI hx, if_neg h, next64 (show i < l.length by omega) hl]
    ·rw [drop_one hx]
     simp only [hasHead, List.any_cons, Bool.eq_false_iff.mpr h, Bool.false_or]
 exact main l.length 0 (by omega)
theorem impl_Index_ev (l : List IHead) (a : Int) (b : ByteArray) (hl : l.length ≤ 9223372036854775807) : ∃ r, Ev (fun k => impl_Head_152.f k l a b) r ∧ decide (r ≥ 0) = hasHead l a b := by
 have main : ∀ (d i : Nat), i + d = l.length → ∃ r, Ev (fun k => impl_Head_152.l0 k l (l.length : Int) (i : Int) a b) r ∧ decide (r ≥ 0) = hasHead (l.drop i) a b := by
  intro d
  induction d with
  | zero =>
   intro i hi
   refine ⟨-1, Ev.step (f := fun _ => some (-1)) (fun k => ?_) (Ev.now _), ?_⟩
   ·simp only [impl_Head_152.l0]
    rw [if_neg (by omega)]
   ·rw [List.drop_of_length_le (by omega)]
    rfl
  | succ d ih =>
   intro i hi
   obtain ⟨x, hx⟩ := get_some (l := l) (i := i) (by omega)
   have hsym : (a == x.f0 && (b.toList == x.f1.toList)) = (x.f0 == a && (x.f1.toList == b.toList)) := by
    rw [Bool.beq_comm (a := a), Bool.beq_comm (a := b.toList)]
   by_cases h : (x.f0 == a && (x.f1.toList == b.toList)) = true
   ·refine ⟨(i : Int), Ev.step (f := fun _ => some (i : Int)) (fun k => ?_) (Ev.now _), ?_⟩
    ·simp only [impl_Head_152.l0]
     rw [if_pos (by omega), if_pos (by omega), if_pos (by omega), rdI hx, hsym, if_pos h]
    ·rw [drop_one hx]
     simp only [hasHead, List.any_cons, h, Bool.true_or]
     exact decide_eq_true (by omega)
   ·obtain ⟨r, h1, h2⟩ := ih (i + 1) (by omega)
    refine ⟨r, Ev.step (fun k => ?_) h1, ?_⟩
    ·simp only [impl_Head_152.l0]
     rw [if_pos (by omega), if_pos (by omega), if_pos (by omega), rdI hx, hsym, if_neg h, next64 (show i < l.length by omega) hl]
    ·rw [h2, drop_one hx]
     simp only [hasHead, List.any_cons, Bool.eq_false_iff.mpr h, Bool.false_or]
 obtain ⟨r, h1, h2⟩ := main l.length 0 (by omega)
 exact ⟨r, h1, h2⟩
theorem impl_IsSigned_ev (l : List IHead) (a : Int) (b : ByteArray) (hl : l.length ≤ 9223372036854775807) : Ev (fun k => impl_IsSigned.f k l a b) (hasHead l a b) := by
 obtain ⟨r, h1, h2⟩ := impl_Index_ev l a b hl
 refine Ev.congr (fun k => by unfold impl_IsSigned.f impl_Head_129.f; rfl) ?_
 refine Ev.bind (Ev.bind h1 (Ev.now _)) ?_
 rw [h2]
 exact Ev.now _
end Go.Proofs.YtnlndmoecljicaaGreat.Q
end
section
namespace Go.Proofs.YtnlndmoecljicaaGreat.Q
open Go.RowKit Go.Proofs.YtnlndmoecljicaaGreatW.PrintWords Go.Proofs.YtnlndmoecljicaaGreatW.PrintLast Go.Proofs.YtnlndmoecljicaaGreatW.PrintMore
attribute [local go_sem] max2_int min2_int max_two min_two max_three min_three max_four min_four   -- for this text's walks alone
set_option linter.unusedVariables false
set_option linter.unusedSimpArgs false
attribute [local go_sem high] eqA37
def spec_l14Known.f (k : Nat) (l0 : List (S37)) (a1_0 : Int) (a1_1 : ByteArray) : Option (Bool) := (spec_HeadOf.f k (([] : List ByteArray))).bind fun bt605 => (if (a1_0 == bt605.1 && (a1_1.toList == bt605.2.toList)) = true then (some true) else ((spec_IsSigned.f k l0 a1_0 a1_1).bind fun t607 => (some t607)))
def spec_l14Known.T1 : Bool × List (List Nat × List Nat) := (true, [([], []), ([], []), ([1], [1]), ([0, 2], [0, 2]), ([3, 2], [3]), ([4], [4]), ([4], [4]), ([5, 6, 4, 4], [4, 5, 6]), ([4, 7], [4, 7]), ([8, 7, 0, 1, 2, 3, 4, 5, 6, 7, 8], [8])])
def spec_l14Known.B1 : List Nat := [0, 0, 2, 7, 15, 31, 31, 127, 255, 511]
theorem spec_l14Known.tab1 : rtab .any (opsOf Tryz.f75 1) = spec_l14Known.T1 := by kernel_rfl
theorem spec_l14Known.bits1 : waitsOk spec_l14Known.T1.2 spec_l14Known.B1 = true := by kernel_rfl
set_option maxHeartbeats 8000000 in
set_option maxRecDepth 100000 in
theorem spec_l14Known.calls (k : Nat) (A0 : Option Addr) (c0 : Nat) (l0 : List (S37)) (a1_0 : Int) (a1_1 : ByteArray) (r : Bool) (w : World) (hr0 : Kd.C k37 w A0 l0.length l0) (hc0 : l0.length ≤ c0) (h : spec_l14Known.f k l0 a1_0 a1_1 = some r) :
  Calls Tryz.prog 75 #[.slice A0 l0.length c0, .agg #[.int .i64 a1_0, .string a1_1]] w fun e w' => e = .returned (.bool r) ∧ Below w.heap.size w w' := by
 have hu37 := Tryz.underlying37
 have HR0 := Aside0.mk hr0
 have HC0 := Aside0.mk hc0
 clear hr0 hc0
 have HB := Aside0.mk (Below.refl w.heap.size w)
 have H : ((spec_HeadOf.f k (([] : List ByteArray))).bind fun bt605 => (if (a1_0 == bt605.1 && (a1_1.toList == bt605.2.toList)) = true then (some true) else ((spec_IsSigned.f k l0 a1_0 a1_1).bind fun t607 => (some t607)))) = some r := h
 clear h
 obtain ⟨y602, hy602⟩ : ∃ y_ : List ByteArray, y_ = (([] : List ByteArray)) := ⟨_, rfl⟩
 replace H : ((spec_HeadOf.f k y602).bind fun bt605 => (if (a1_0 == bt605.1 && (a1_1.toList == bt605.2.toList)) = true then (some true) else ((spec_IsSigned.f k l0 a1_0 a1_1).bind fun t607 => (some t607)))) = some r := yh_ hy602 H
 have Ny602 := Aside0.mk hy602
 clear hy602
 replace H := bi_ H; obtain ⟨⟨t605, t606⟩, A3, H⟩ := H
 dsimp only at H
 replace H := it_ H; obtain ⟨c4, H⟩ | ⟨c4, H⟩ := H
 ·have c4b0 : (a1_0 == t605 && (a1_1.toList == t606.toList)) = true := c4
  (try (have c4b1 : decide (a1_0 = t605 && (a1_1.toList == t606.toList)) = true := by simpa using c4))
  (try (have c4b2 : (a1_0 == t605 && (a1_1.toList == t606.toList)) = true := by simpa using c4))
  clear c4
  obtain rfl := Option.some.inj H
  go_enter Tryz.func75, Tryz.ntmps75
  try go_wp2_with (first | ((with_reducible refine gd_ 3 ?_); refine bx_ 3 37 #[.int .i64 a1_0, .string a1_1] ?_; intro gb601 hg w5 hbox hb; have BK601 := Aside0.mk hbox; have GW601 := gg_ hg HB; have GE601 := GW601; replace HB := ss_ HB hb; clear hb hbox hg))
  replace BK601 := Aside0.mk (blk_drew BK601.out)
  replace HB := Aside0.mk (below_drew1 HB.out)
  refine start_ (n := 10) (S := fun w' => w'.cell? ⟨gb601, 0, none⟩ = some (.int .i64 a1_0) ∧ w'.cell? ⟨gb601, 1, none⟩ = some (.string a1_1)) (ds := []) (lz_ 10 0) (by kernel_rfl) rfl rfl ⟨bc0_ BK601.out, bc1_ BK601.out⟩ (fun hHeld => ?_); refine with_tabW spec_l14Known.tab1 spec_l14Known.bits1 (fun HT_ HW_ => ?_)
  generalize w5.drew = w6 at BK601 HB hHeld ⊢
  refine tt_ 0 5 1 ?_
  refine one_ (i := 1) (N := some 6) (lz_ 10 3) rfl rfl (one_of HT_.out (by kernel_rfl)) (by decide) (fun K hK => ?_)
  refine Kd.R_lit_step Kd.string _ 9 ?hg (N := 6) ?hd (xs := ([] : List ByteArray)) (inner := []) (ok := fun _ => True) (okp := fun _ => True) ?hr ?hp (fun _ hk => hk) trivial (Below.refl _ _) (Nat.le_refl _) (by simp) ?_; (case hd => rfl); (case hg => rfl); (case hr => first | (go_simp; done) | (go_simp; rfl)); (case hp => exact (Reps.none _ _))
  intro v603 w7 ho8 hb hg_ hnew_
  clear hg_ hnew_
  (first | rw [← Ny602.out] at ho8 | (simp only [Int.reduceToNat] at ho8; rw [← Ny602.out] at ho8))
  have HO604 := Aside0.mk (Kd.R_lower ho8 (sz_ HB))
  replace BK601 := kl_ BK601 hb
  replace HB := ss_ HB hb
  clear hb ho8
  obtain ⟨Ao9, co9, eo9⟩ := Kd.R_slice HO604.out
  (first | subst eo9 | (injection eo9 with f1_ f2_ f3_; have f4_ := f1_.symm; have f5_ := f3_.symm; clear f1_ f2_ f3_; subst f4_; subst f5_))
  refine hK.out _ _ ⟨bc0_ BK601.out, bc1_ BK601.out⟩ (fun hHeld => ?_)
  clear hK K
  refine no_ 6 ?_
  refine one_ (i := 2) (N := some 7) (lz_ 10 7) rfl rfl (one_of HT_.out (by kernel_rfl)) (by decide) (fun K hK => ?_)
  refine gf_ Tryz.func110 (spec_HeadOf.calls k _ _ y602 t605 t606 _ (ch_ HO604) (cl_ HO604) A3.out) ?_
  rintro e w10 ⟨rfl, hb⟩
  refine ⟨_, rfl, ?_⟩
  replace HO604 := rb_ HO604 hb
  replace BK601 := kl_ BK601 hb
  replace HB := ss_ HB hb
  clear hb
  refine hK.out _ _ ⟨bc0_ BK601.out, bc1_ BK601.out⟩ (fun hHeld => ?_)
  clear hK K
  refine no_ 7 ?_
  refine pt_ 3 8 15 ?_
  refine pt_ 4 9 31 ?_
  refine ut_ 5 10 63 ?_
  refine ut_ 6 11 127 ?_
  refine ut_ 7 12 255 ?_
  refine pt_ 8 13 511 ?_
  refine pt_ 9 4 1023 ?_
  refine done_ (done_of HT_.out (by kernel_rfl)) ?_
  try go_wp2
  go_ret
  exact ⟨e2_, bw_ HB⟩
 ·have c4b0 : (a1_0 == t605 && (a1_1.toList == t606.toList)) = false := by simpa using c4
  (try (have c4b1 : decide (a1_0 = t605 && (a1_1.toList == t606.toList)) = false := by simpa using c4))
  (try (have c4b2 : (a1_0 == t605 && (a1_1.toList == t606.toList)) = false := by simpa using c4))
  (try (have c4b3 : ¬ (a1_0 = t605 && (a1_1.toList == t606.toList)) := by simpa using c4))
  clear c4
  replace H := bi_ H; obtain ⟨t607, A11, H⟩ := H
  obtain rfl := Option.some.inj H
  go_enter Tryz.func75, Tryz.ntmps75
  try go_wp2_with (first | ((with_reducible refine gd_ 3 ?_); refine bx_ 3 37 #[.int .i64 a1_0, .string a1_1] ?_; intro gb601 hg w12 hbox hb; have BK601 := Aside0.mk hbox; have GW601 := gg_ hg HB; have GE601 := GW601; replace HB := ss_ HB hb; clear hb hbox hg))
  replace BK601 := Aside0.mk (blk_drew BK601.out)
  replace HB := Aside0.mk (below_drew1 HB.out)
  refine start_ (n := 10) (S := fun w' => w'.cell? ⟨gb601, 0, none⟩ = some (.int .i64 a1_0) ∧ w'.cell? ⟨gb601, 1, none⟩ = some (.string a1_1)) (ds := []) (lz_ 10 0) (by kernel_rfl) rfl rfl ⟨bc0_ BK601.out, bc1_ BK601.out⟩ (fun hHeld => ?_); refine with_tabW spec_l14Known.tab1 spec_l14Known.bits1 (fun HT_ HW_ => ?_)
  generalize w12.drew = w13 at BK601 HB hHeld ⊢
  refine tt_ 0 5 1 ?_
  refine one_ (i := 1) (N := some 6) (lz_ 10 3) rfl rfl (one_of HT_.out (by kernel_rfl)) (by decide) (fun K hK => ?_)
  refine Kd.R_lit_step Kd.string _ 9 ?hg (N := 6) ?hd (xs := ([] : List ByteArray)) (inner := []) (ok := fun _ => True) (okp := fun _ => True) ?hr ?hp (fun _ hk => hk) trivial (Below.refl _ _) (Nat.le_refl _) (by simp) ?_; (case hd => rfl); (case hg => rfl); (case hr => first | (go_simp; done) | (go_simp; rfl)); (case hp => exact (Reps.none _ _))
  intro v603 w14 ho15 hb hg_ hnew_
  clear hg_ hnew_
  (first | rw [← Ny602.out] at ho15 | (simp only [Int.reduceToNat] at ho15; rw [← Ny602.out] at ho15))
  have HO604 := Aside0.mk (Kd.R_lower ho15 (sz_ HB))
  replace BK601 := kl_ BK601 hb
  replace HB := ss_ HB hb
  clear hb ho15
  obtain ⟨Ao16, co16, eo16⟩ := Kd.R_slice HO604.out
  (first | subst eo16 | (injection eo16 with f1_ f2_ f3_; have f4_ := f1_.symm; have f5_ := f3_.symm; clear f1_ f2_ f3_; subst f4_; subst f5_))
  refine hK.out _ _ ⟨bc0_ BK601.out, bc1_ BK601.out⟩ (fun hHeld => ?_)
  clear hK K
  refine no_ 6 ?_
  refine one_ (i := 2) (N := some 7) (lz_ 10 7) rfl rfl (one_of HT_.out (by kernel_rfl)) (by decide) (fun K hK => ?_)
  refine gf_ Tryz.func110 (spec_HeadOf.calls k _ _ y602 t605 t606 _ (ch_ HO604) (cl_ HO604) A3.out) ?_
  rintro e w17 ⟨rfl, hb⟩
  refine ⟨_, rfl, ?_⟩
  replace HO604 := rb_ HO604 hb
  replace BK601 := kl_ BK601 hb
  replace HB := ss_ HB hb
  clear hb
  refine hK.out _ _ ⟨bc0_ BK601.out, bc1_ BK601.out⟩ (fun hHeld => ?_)
  clear hK K
  refine no_ 7 ?_
  refine pt_ 3 8 15 ?_
  refine pt_ 4 9 31 ?_
  refine pt_ 5 10 63 ?_
  refine tt_ 6 11 127 ?_
  refine one_ (i := 7) (N := some 12) (lz_ 10 255) rfl rfl (one_of HT_.out (by kernel_rfl)) (by decide) (fun K hK => ?_)
  refine gf_ Tryz.func111 (spec_IsSigned.calls k _ _ l0 a1_0 a1_1 t607 _ (cb_ HR0 HB) HC0.out A11.out) ?_
  rintro e w18 ⟨rfl, hb⟩
  refine ⟨_, rfl, ?_⟩
  replace HO604 := rb_ HO604 hb
  replace BK601 := kl_ BK601 hb
  replace HB := ss_ HB hb
  clear hb
  refine hK.out _ _ ⟨bc0_ BK601.out, bc1_ BK601.out⟩ (fun hHeld => ?_)
  clear hK K
  refine no_ 12 ?_
  refine pt_ 8 13 511 ?_
  refine pt_ 9 4 1023 ?_
  refine done_ (done_of HT_.out (by kernel_rfl)) ?_
  try go_wp2
  go_ret
  exact ⟨e2_, bw_ HB⟩
end Go.Proofs.YtnlndmoecljicaaGreat.Q
end
section
namespace Go.Proofs.YtnlndmoecljicaaGreat.Q
open Go.RowKit Go.Proofs.YtnlndmoecljicaaGreatW.PrintWords Go.Proofs.YtnlndmoecljicaaGreatW.PrintLast Go.Proofs.YtnlndmoecljicaaGreatW.PrintMore
attribute [local go_sem] max2_int min2_int max_two min_two max_three min_three max_four min_four   -- for this text's walks alone
set_option linter.unusedVariables false
set_option linter.unusedSimpArgs false
def spec_MirrorOk.f (k : Nat) (a0_0 : Int) (l0_1 : List ByteArray) (a0_2 : Int) (a0_3 : ByteArray) (l0_4 : List Int) (a0_5 : Int) (a0_6 : Int) (a0_7 : ByteArray) (l1 : List (S37)) : Option (Bool) := (spec_l1In.f a0_0 0 20).bind fun t602 => (if t602 = true then ((spec_StoreOk.f k l0_1 a0_2 a0_3 l0_4 a0_5).bind fun t603 => (if t603 = true then ((spec_HeadOk.f a0_6 a0_7).bind fun t604 => (if t604 = true then ((spec_l14Known.f k l1 a0_6 a0_7).bind fun t605 => (if t605 = true then ((spec_l14Known.f k l1 a0_2 a0_3).bind fun t606 => (some t606)) else (some false))) else (some false))) else (some false))) else (some false))
set_option maxHeartbeats 8000000 in
set_option maxRecDepth 100000 in
theorem spec_MirrorOk.calls (k : Nat) (a0_0 : Int) (A0_1 : Option Addr) (c0_1 : Nat) (l0_1 : List ByteArray) (a0_2 : Int) (a0_3 : ByteArray) (A0_4 : Option Addr) (c0_4 : Nat) (l0_4 : List Int) (a0_5 : Int) (a0_6 : Int) (a0_7 : ByteArray) (A1 : Option Addr) (c1 : Nat) (l1 : List (S37)) (r : Bool) (w : World) (hr0_1 : Kd.C Kd.string w A0_1 l0_1.length l0_1) (hc0_1 : l0_1.length ≤ c0_1) (hr0_4 : Kd.C (Kd.int .u8) w A0_4 l0_4.length l0_4) (hc0_4 : l0_4.length ≤ c0_4) (hr1 : Kd.C k37 w A1 l1.length l1) (hc1 : l1.length ≤ c1) (h : spec_MirrorOk.f k a0_0 l0_1 a0_2 a0_3 l0_4 a0_5 a0_6 a0_7 l1 = some r) :
  Calls Tryz.prog 39 #[.agg #[.int .i64 a0_0, .slice A0_1 l0_1.length c0_1, .int .i64 a0_2, .string a0_3, .slice A0_4 l0_4.length c0_4, .int .i64 a0_5, .int .i64 a0_6, .string a0_7], .slice A1 l1.length c1] w fun e w' => e = .returned (.bool r) ∧ Below w.heap.size w w' := by
 have hu43 := Tryz.underlying43
 have hu41 := Tryz.underlying41
 have hu37 := Tryz.underlying37
 have HR0_1 := Aside0.mk hr0_1
 have HC0_1 := Aside0.mk hc0_1
 clear hr0_1 hc0_1
 have HR0_4 := Aside0.mk hr0_4
 have HC0_4 := Aside0.mk hc0_4
 clear hr0_4 hc0_4
 have HR1 := Aside0.mk hr1
 have HC1 := Aside0.mk hc1
 clear hr1 hc1
 have HB := Aside0.mk (Below.refl w.heap.size w)
 have H : ((spec_l1In.f a0_0 0 20).bind fun t602 => (if t602 = true then ((spec_StoreOk.f k l0_1 a0_2 a0_3 l0_4 a0_5).bind fun t603 => (if t603 = true then ((spec_HeadOk.f a0_6 a0_7).bind fun t604 => (if t604 = true then ((spec_l14Known.f k l1 a0_6 a0_7).bind fun t605 => (if t605 = true then ((spec_l14Known.f k l1 a0_2 a0_3).bind fun t606 => (some t606)) else (some false))) else (some false))) else (some false))) else (some false))) = some r := h
 clear h
 replace H := bi_ H; obtain ⟨t602, A3, H⟩ := H
 replace H := itb_ H; obtain ⟨rfl, H⟩ | ⟨rfl, H⟩ := H
 ·replace H := bi_ H; obtain ⟨t603, A5, H⟩ := H
  replace H := itb_ H; obtain ⟨rfl, H⟩ | ⟨rfl, H⟩ := H
  ·replace H := bi_ H; obtain ⟨t604, A7, H⟩ := H
   replace H := itb_ H; obtain ⟨rfl, H⟩ | ⟨rfl, H⟩ := H
   ·replace H := bi_ H; obtain ⟨t605, A9, H⟩ := H
    replace H := itb_ H; obtain ⟨rfl, H⟩ | ⟨rfl, H⟩ := H
    ·replace H := bi_ H; obtain ⟨t606, A11, H⟩ := H
     obtain rfl := Option.some.inj H
     go_enter Tryz.func39, Tryz.ntmps39
     go_wp2_with (first | ((with_reducible refine gd_ 2 ?_); refine bx_ 2 43 #[.int .i64 a0_0, .slice A0_1 l0_1.length c0_1, .int .i64 a0_2, .string a0_3, .slice A0_4 l0_4.length c0_4, .int .i64 a0_5, .int .i64 a0_6, .string a0_7] ?_; intro gb601 hg w12 hbox hb; have BK601 := Aside0.mk hbox; have GW601 := gg_ hg HB; have GE601 := GW601; replace HB := ss_ HB hb; clear hb hbox hg; have hcz13 := cz8_ BK601) | ((with_reducible refine gq_ 72 7 ?_); refine gc_ 7 Tryz.func72 (spec_l1In.calls a0_0 0 20 true _ A3.out) ?_; rintro e w' ⟨rfl, ⟨nd, rfl⟩⟩; refine ⟨_, rfl, ?_⟩) | (go_at_call 73; (with_reducible refine (spec_StoreOk.calls k _ _ l0_1 a0_2 a0_3 _ _ l0_4 a0_5 true _ ?side1 ?side2 ?side3 ?side4 A5.out).mono ?_); (case side1 => exact cr_ (Kd.C_below HR0_1.out (bw_ HB))); (case side2 => exact HC0_1.out); (case side3 => exact cr_ (Kd.C_below HR0_4.out (bw_ HB))); (case side4 => exact HC0_4.out); rintro e w14 ⟨rfl, hb⟩; replace BK601 := kl_ BK601 hb; replace HB := ss_ HB hb; clear hb; have hcz15 := cz8_ BK601) | (go_at_call 74; (with_reducible refine (spec_HeadOk.calls a0_6 a0_7 true _ A7.out).mono ?_); rintro e w16 ⟨rfl, hb⟩; replace BK601 := kl_ BK601 hb; replace HB := ss_ HB hb; clear hb; have hcz17 := cz8_ BK601) | (go_at_call 75; (with_reducible refine (spec_l14Known.calls k _ _ l1 a0_6 a0_7 true _ ?side1 ?side2 A9.out).mono ?_); (case side1 => exact cb_ HR1 HB); (case side2 => exact HC1.out); rintro e w18 ⟨rfl, hb⟩; replace BK601 := kl_ BK601 hb; replace HB := ss_ HB hb; clear hb; have hcz19 := cz8_ BK601) | (go_at_call 75; (with_reducible refine (spec_l14Known.calls k _ _ l1 a0_2 a0_3 t606 _ ?side1 ?side2 A11.out).mono ?_); (case side1 => exact cb_ HR1 HB); (case side2 => exact HC1.out); rintro e w20 ⟨rfl, hb⟩; replace BK601 := kl_ BK601 hb; replace HB := ss_ HB hb; clear hb))
     go_ret
     exact ⟨e2_, bw_ HB⟩
    ·obtain rfl := Option.some.inj H
     go_enter Tryz.func39, Tryz.ntmps39
     go_wp2_with (first | ((with_reducible refine gd_ 2 ?_); refine bx_ 2 43 #[.int .i64 a0_0, .slice A0_1 l0_1.length c0_1, .int .i64 a0_2, .string a0_3, .slice A0_4 l0_4.length c0_4, .int .i64 a0_5, .int .i64 a0_6, .string a0_7] ?_; intro gb601 hg w21 hbox hb; have BK601 := Aside0.mk hbox; have GW601 := gg_ hg HB; have GE601 := GW601; replace HB := ss_ HB hb; clear hb hbox hg; have hcz22 := cz8_ BK601) | ((with_reducible refine gq_ 72 7 ?_); refine gc_ 7 Tryz.func72 (spec_l1In.calls a0_0 0 20 true _ A3.out) ?_; rintro e w' ⟨rfl, ⟨nd, rfl⟩⟩; refine ⟨_, rfl, ?_⟩) | (go_at_call 73; (with_reducible refine (spec_StoreOk.calls k _ _ l0_1 a0_2 a0_3 _ _ l0_4 a0_5 true _ ?side1 ?side2 ?side3 ?side4 A5.out).mono ?_); (case side1 => exact cr_ (Kd.C_below HR0_1.out (bw_ HB))); (case side2 => exact HC0_1.out); (case side3 => exact cr_ (Kd.C_below HR0_4.out (bw_ HB))); (case side4 => exact HC0_4.out); rintro e w23 ⟨rfl, hb⟩; replace BK601 := kl_ BK601 hb; replace HB := ss_ HB hb; clear hb; have hcz24 := cz8_ BK601) | (go_at_call 74; (with_reducible refine (spec_HeadOk.calls a0_6 a0_7 true _ A7.out).mono ?_); rintro e w25 ⟨rfl, hb⟩; replace BK601 := kl_ BK601 hb; replace HB := ss_ HB hb; clear hb; have hcz26 := cz8_ BK601) | (go_at_call 75; (with_reducible refine (spec_l14Known.calls k _ _ l1 a0_6 a0_7 false _ ?side1 ?side2 A9.out).mono ?_); (case side1 => exact cb_ HR1 HB); (case side2 => exact HC1.out); rintro e w27 ⟨rfl, hb⟩; replace BK601 := kl_ BK601 hb; replace HB := ss_ HB hb; clear hb))
     go_ret
     exact ⟨e2_, bw_ HB⟩
   ·obtain rfl := Option.some.inj H
    go_enter Tryz.func39, Tryz.ntmps39
    go_wp2_with (first | ((with_reducible refine gd_ 2 ?_); refine bx_ 2 43 #[.int .i64 a0_0, .slice A0_1 l0_1.length c0_1, .int .i64 a0_2, .string a0_3, .slice A0_4 l0_4.length c0_4, .int .i64 a0_5, .int .i64 a0_6, .string a0_7] ?_; intro gb601 hg w28 hbox hb; have BK601 := Aside0.mk hbox; have GW601 := gg_ hg HB; have GE601 := GW601; replace HB := ss_ HB hb; clear hb hbox hg; have hcz29 := cz8_ BK601) | ((with_reducible refine gq_ 72 7 ?_); refine gc_ 7 Tryz.func72 (spec_l1In.calls a0_0 0 20 true _ A3.out) ?_; rintro e w' ⟨rfl, ⟨nd, rfl⟩⟩; refine ⟨_, rfl, ?_⟩) | (go_at_call 73; (with_reducible refine (spec_StoreOk.calls k _ _ l0_1 a0_2 a0_3 _ _ l0_4 a0_5 true _ ?side1 ?side2 ?side3 ?side4 A5.out).mono ?_); (case side1 => exact cr_ (Kd.C_below HR0_1.out (bw_ HB))); (case side2 => exact HC0_1.out); (case side3 => exact cr_ (Kd.C_below HR0_4.out (bw_ HB))); (case side4 => exact HC0_4.out); rintro e w30 ⟨rfl, hb⟩; replace BK601 := kl_ BK601 hb; replace HB := ss_ HB hb; clear hb; have hcz31 := cz8_ BK601) | (go_at_call 74; (with_reducible refine (spec_HeadOk.calls a0_6 a0_7 false _ A7.out).mono ?_); rintro e w32 ⟨rfl, hb⟩; replace BK601 := kl_ BK601 hb; replace HB := ss_ HB hb; clear hb))
    go_ret
    exact ⟨e2_, bw_ HB⟩
  ·obtain rfl := Option.some.inj H
   go_enter Tryz.func39, Tryz.ntmps39
   go_wp2_with (first | ((with_reducible refine gd_ 2 ?_); refine bx_ 2 43 #[.int .i64 a0_0, .slice A0_1 l0_1.length c0_1, .int .i64 a0_2, .string a0_3, .slice A0_4 l0_4.length c0_4, .int .i64 a0_5, .int .i64 a0_6, .string a0_7] ?_; intro gb601 hg w33 hbox hb; have BK601 := Aside0.mk hbox; have GW601 := gg_ hg HB; have GE601 := GW601; replace HB := ss_ HB hb; clear hb hbox hg; have hcz34 := cz8_ BK601) | ((with_reducible refine gq_ 72 7 ?_); refine gc_ 7 Tryz.func72 (spec_l1In.calls a0_0 0 20 true _ A3.out) ?_; rintro e w' ⟨rfl, ⟨nd, rfl⟩⟩; refine ⟨_, rfl, ?_⟩) | (go_at_call 73; (with_reducible refine (spec_StoreOk.calls k _ _ l0_1 a0_2 a0_3 _ _ l0_4 a0_5 false _ ?side1 ?side2 ?side3 ?side4 A5.out).mono ?_); (case side1 => exact cr_ (Kd.C_below HR0_1.out (bw_ HB))); (case side2 => exact HC0_1.out); (case side3 => exact cr_ (Kd.C_below HR0_4.out (bw_ HB))); (case side4 => exact HC0_4.out); rintro e w35 ⟨rfl, hb⟩; replace BK601 := kl_ BK601 hb; replace HB := ss_ HB hb; clear hb))
   go_ret
   exact ⟨e2_, bw_ HB⟩
 ·obtain rfl := Option.some.inj H
  go_enter Tryz.func39, Tryz.ntmps39
  go_wp2_with (first | ((with_reducible refine gd_ 2 ?_); refine bx_ 2 43 #[.int .i64 a0_0, .slice A0_1 l0_1.length c0_1, .int .i64 a0_2, .string a0_3, .slice A0_4 l0_4.length c0_4, .int .i64 a0_5, .int .i64 a0_6, .string a0_7] ?_; intro gb601 hg w36 hbox hb; have BK601 := Aside0.mk hbox; have GW601 := gg_ hg HB; have GE601 := GW601; replace HB := ss_ HB hb; clear hb hbox hg; have hcz37 := cz8_ BK601) | ((with_reducible refine gq_ 72 7 ?_); refine gc_ 7 Tryz.func72 (spec_l1In.calls a0_0 0 20 false _ A3.out) ?_; rintro e w' ⟨rfl, ⟨nd, rfl⟩⟩; refine ⟨_, rfl, ?_⟩))
  go_ret
  exact ⟨e2_, bw_ HB⟩
def impl_isId.f (a0 : Int) : Option (Bool) := (impl_inRange.f a0 0 20).bind fun t601 => (some t601)
set_option maxHeartbeats 8000000 in
set_option maxRecDepth 100000 in
theorem impl_isId.calls (a0 : Int) (r : Bool) (w : World) (h : impl_isId.f a0 = some r) :
  Calls Tryz.prog 59 #[.int .i64 a0] w fun e w' => e = .returned (.bool r) ∧ Drawn0 w w' := by
 have H : ((impl_inRange.f a0 0 20).bind fun t601 => (some t601)) = some r := h
 clear h
 replace H := bi_ H; obtain ⟨t601, A2, H⟩ := H
 obtain rfl := Option.some.inj H
 go_enter Tryz.func59, Tryz.ntmps59
 go_wp2_with (first | ((with_reducible refine gq_ 63 4 ?_); refine gc_ 4 Tryz.func63 (impl_inRange.calls a0 0 20 t601 _ A2.out) ?_; rintro e w' ⟨rfl, ⟨nd, rfl⟩⟩; refine ⟨_, rfl, ?_⟩))
 go_ret
 exact ⟨e1_, dw_⟩
end Go.Proofs.YtnlndmoecljicaaGreat.Q
end
section
namespace Go.Proofs.YtnlndmoecljicaaGreat.Q
open Go.RowKit Go.Proofs.YtnlndmoecljicaaGreatW.PrintWords Go.Proofs.YtnlndmoecljicaaGreatW.PrintLast Go.Proofs.YtnlndmoecljicaaGreatW.PrintMore
attribute [local go_sem] max2_int min2_int max_two min_two max_three min_three max_four min_four   -- for this text's walks alone
set_option linter.unusedVariables false
set_option linter.unusedSimpArgs false
attribute [local go_sem high] eqA37
def impl_isKnown.f (k : Nat) (l0 : List (S37)) (a1_0 : Int) (a1_1 : ByteArray) : Option (Bool) := (impl_HeadOf.f k ([] : List ByteArray)).bind fun bt602 => (if (a1_0 == bt602.1 && (a1_1.toList == bt602.2.toList)) = true then (some true) else ((impl_IsSigned.f k l0 a1_0 a1_1).bind fun t604 => (some t604)))
def impl_isKnown.T1 : Bool × List (List Nat × List Nat) := (true, [([], []), ([], []), ([0, 1], [0, 1]), ([2, 1], [2]), ([3], [3]), ([3], [3]), ([4, 5, 3, 3], [3, 4, 5]), ([3, 6], [3, 6]), ([7, 6, 0, 1, 2, 3, 4, 5, 6, 7], [7])])
def impl_isKnown.B1 : List Nat := [0, 0, 3, 7, 15, 15, 63, 127, 255]
theorem impl_isKnown.tab1 : rtab .any (opsOf Tryz.f61 1) = impl_isKnown.T1 := by kernel_rfl
theorem impl_isKnown.bits1 : waitsOk impl_isKnown.T1.2 impl_isKnown.B1 = true := by kernel_rfl
set_option maxHeartbeats 8000000 in
set_option maxRecDepth 100000 in
theorem impl_isKnown.calls (k : Nat) (A0 : Option Addr) (c0 : Nat) (l0 : List (S37)) (a1_0 : Int) (a1_1 : ByteArray) (r : Bool) (w : World) (hr0 : Kd.C k37 w A0 l0.length l0) (hc0 : l0.length ≤ c0) (h : impl_isKnown.f k l0 a1_0 a1_1 = some r) :
  Calls Tryz.prog 61 #[.slice A0 l0.length c0, .agg #[.int .i64 a1_0, .string a1_1]] w fun e w' => e = .returned (.bool r) ∧ Below w.heap.size w w' := by
 have hu37 := Tryz.underlying37
 have HR0 := Aside0.mk hr0
 have HC0 := Aside0.mk hc0
 clear hr0 hc0
 have HB := Aside0.mk (Below.refl w.heap.size w)
 have H : ((impl_HeadOf.f k ([] : List ByteArray)).bind fun bt602 => (if (a1_0 == bt602.1 && (a1_1.toList == bt602.2.toList)) = true then (some true) else ((impl_IsSigned.f k l0 a1_0 a1_1).bind fun t604 => (some t604)))) = some r := h
 clear h
 replace H := bi_ H; obtain ⟨⟨t602, t603⟩, A3, H⟩ := H
 dsimp only at H
 replace H := it_ H; obtain ⟨c4, H⟩ | ⟨c4, H⟩ := H
 ·have c4b0 : (a1_0 == t602 && (a1_1.toList == t603.toList)) = true := c4
  (try (have c4b1 : decide (a1_0 = t602 && (a1_1.toList == t603.toList)) = true := by simpa using c4))
  (try (have c4b2 : (a1_0 == t602 && (a1_1.toList == t603.toList)) = true := by simpa using c4))
  clear c4
  obtain rfl := Option.some.inj H
  go_enter Tryz.func61, Tryz.ntmps61
  try go_wp2_with (first | ((with_reducible refine gd_ 3 ?_); refine bx_ 3 37 #[.int .i64 a1_0, .string a1_1] ?_; intro gb601 hg w5 hbox hb; have BK601 := Aside0.mk hbox; have GW601 := gg_ hg HB; have GE601 := GW601; replace HB := ss_ HB hb; clear hb hbox hg))
  replace BK601 := Aside0.mk (blk_drew BK601.out)
  replace HB := Aside0.mk (below_drew1 HB.out)
  refine start_ (n := 9) (S := fun w' => w'.cell? ⟨gb601, 0, none⟩ = some (.int .i64 a1_0) ∧ w'.cell? ⟨gb601, 1, none⟩ = some (.string a1_1)) (ds := []) (lz_ 9 0) (by kernel_rfl) rfl rfl ⟨bc0_ BK601.out, bc1_ BK601.out⟩ (fun hHeld => ?_); refine with_tabW impl_isKnown.tab1 impl_isKnown.bits1 (fun HT_ HW_ => ?_)
  generalize w5.drew = w6 at BK601 HB hHeld ⊢
  refine tt_ 0 5 1 ?_
  refine one_ (i := 1) (N := some 6) (lz_ 9 3) rfl rfl (one_of HT_.out (by kernel_rfl)) (by decide) (fun K hK => ?_)
  refine ge_ Tryz.func65 #[.slice none 0 0] ?_
  refine (impl_HeadOf.calls k _ _ ([] : List ByteArray) t602 t603 _ ?side1 ?side2 A3.out).mono ?_
  (case side1 => exact Kd.C_nil _ _)
  (case side2 => exact Nat.le_refl _)
  rintro e w7 ⟨rfl, hb⟩
  refine ⟨_, rfl, ?_⟩
  replace BK601 := kl_ BK601 hb
  replace HB := ss_ HB hb
  clear hb
  refine hK.out _ _ ⟨bc0_ BK601.out, bc1_ BK601.out⟩ (fun hHeld => ?_)
  clear hK K
  refine no_ 6 ?_
  refine pt_ 2 7 7 ?_
  refine pt_ 3 8 15 ?_
  refine ut_ 4 9 31 ?_
  refine ut_ 5 10 63 ?_
  refine ut_ 6 11 127 ?_
  refine pt_ 7 12 255 ?_
  refine pt_ 8 4 511 ?_
  refine done_ (done_of HT_.out (by kernel_rfl)) ?_
  try go_wp2
  go_ret
  exact ⟨e2_, bw_ HB⟩
 ·have c4b0 : (a1_0 == t602 && (a1_1.toList == t603.toList)) = false := by simpa using c4
  (try (have c4b1 : decide (a1_0 = t602 && (a1_1.toList == t603.toList)) = false := by simpa using c4))
  (try (have c4b2 : (a1_0 == t602 && (a1_1.toList == t603.toList)) = false := by simpa using c4))
  (try (have c4b3 : ¬ (a1_0 = t602 && (a1_1.toList == t603.toList)) := by simpa using c4))
  clear c4
  replace H := bi_ H; obtain ⟨t604, A8, H⟩ := H
  obtain rfl := Option.some.inj H
  go_enter Tryz.func61, Tryz.ntmps61
  try go_wp2_with (first | ((with_reducible refine gd_ 3 ?_); refine bx_ 3 37 #[.int .i64 a1_0, .string a1_1] ?_; intro gb601 hg w9 hbox hb; have BK601 := Aside0.mk hbox; have GW601 := gg_ hg HB; have GE601 := GW601; replace HB := ss_ HB hb; clear hb hbox hg))
  replace BK601 := Aside0.mk (blk_drew BK601.out)
  replace HB := Aside0.mk (below_drew1 HB.out)
  refine start_ (n := 9) (S := fun w' => w'.cell? ⟨gb601, 0, none⟩ = some (.int .i64 a1_0) ∧ w'.cell? ⟨gb601, 1, none⟩ = some (.string a1_1)) (ds := []) (lz_ 9 0) (by kernel_rfl) rfl rfl ⟨bc0_ BK601.out, bc1_ BK601.out⟩ (fun hHeld => ?_); refine with_tabW impl_isKnown.tab1 impl_isKnown.bits1 (fun HT_ HW_ => ?_)
  generalize w9.drew = w10 at BK601 HB hHeld ⊢
  refine tt_ 0 5 1 ?_
  refine one_ (i := 1) (N := some 6) (lz_ 9 3) rfl rfl (one_of HT_.out (by kernel_rfl)) (by decide) (fun K hK => ?_)
  refine ge_ Tryz.func65 #[.slice none 0 0] ?_
  refine (impl_HeadOf.calls k _ _ ([] : List ByteArray) t602 t603 _ ?side1 ?side2 A3.out).mono ?_
  (case side1 => exact Kd.C_nil _ _)
  (case side2 => exact Nat.le_refl _)
  rintro e w11 ⟨rfl, hb⟩
  refine ⟨_, rfl, ?_⟩
  replace BK601 := kl_ BK601 hb
  replace HB := ss_ HB hb
  clear hb
  refine hK.out _ _ ⟨bc0_ BK601.out, bc1_ BK601.out⟩ (fun hHeld => ?_)
  clear hK K
  refine no_ 6 ?_
  refine pt_ 2 7 7 ?_
  refine pt_ 3 8 15 ?_
  refine pt_ 4 9 31 ?_
  refine tt_ 5 10 63 ?_
  refine one_ (i := 6) (N := some 11) (lz_ 9 127) rfl rfl (one_of HT_.out (by kernel_rfl)) (by decide) (fun K hK => ?_)
  refine gf_ Tryz.func96 (impl_IsSigned.calls k _ _ l0 a1_0 a1_1 t604 _ (cb_ HR0 HB) HC0.out A8.out) ?_
  rintro e w12 ⟨rfl, hb⟩
  refine ⟨_, rfl, ?_⟩
  replace BK601 := kl_ BK601 hb
  replace HB := ss_ HB hb
  clear hb
  refine hK.out _ _ ⟨bc0_ BK601.out, bc1_ BK601.out⟩ (fun hHeld => ?_)
  clear hK K
  refine no_ 11 ?_
  refine pt_ 7 12 255 ?_
  refine pt_ 8 4 511 ?_
  refine done_ (done_of HT_.out (by kernel_rfl)) ?_
  try go_wp2
  go_ret
  exact ⟨e2_, bw_ HB⟩
end Go.Proofs.YtnlndmoecljicaaGreat.Q
end
section
namespace Go.Proofs.YtnlndmoecljicaaGreat.Q
open Go.RowKit Go.Proofs.YtnlndmoecljicaaGreatW.PrintWords Go.Proofs.YtnlndmoecljicaaGreatW.PrintLast Go.Proofs.YtnlndmoecljicaaGreatW.PrintMore
attribute [local go_sem] max2_int min2_int max_two min_two max_three min_three max_four min_four   -- for this text's walks alone
set_option linter.unusedVariables false
set_option linter.unusedSimpArgs false
def impl_MirrorOk.f (k : Nat) (a0_0 : Int) (l0_1 : List ByteArray) (a0_2 : Int) (a0_3 : ByteArray) (l0_4 : List Int) (a0_5 : Int) (a0_6 : Int) (a0_7 : ByteArray) (l1 : List (S37)) : Option (Bool) := (impl_isId.f a0_0).bind fun t602 => (if t602 = true then ((impl_HeadOk.f a0_6 a0_7).bind fun t603 => (if t603 = true then ((impl_isKnown.f k l1 a0_6 a0_7).bind fun t604 => (if t604 = true then ((impl_isKnown.f k l1 a0_2 a0_3).bind fun t605 => (if t605 = true then ((impl_StoreOk.f k l0_1 a0_2 a0_3 l0_4 a0_5).bind fun t606 => (some t606)) else (some false))) else (some false))) else (some false))) else (some false))
set_option maxHeartbeats 8000000 in
set_option maxRecDepth 100000 in
theorem impl_MirrorOk.calls (k : Nat) (a0_0 : Int) (A0_1 : Option Addr) (c0_1 : Nat) (l0_1 : List ByteArray) (a0_2 : Int) (a0_3 : ByteArray) (A0_4 : Option Addr) (c0_4 : Nat) (l0_4 : List Int) (a0_5 : Int) (a0_6 : Int) (a0_7 : ByteArray) (A1 : Option Addr) (c1 : Nat) (l1 : List (S37)) (r : Bool) (w : World) (hr0_1 : Kd.C Kd.string w A0_1 l0_1.length l0_1) (hc0_1 : l0_1.length ≤ c0_1) (hr0_4 : Kd.C (Kd.int .u8) w A0_4 l0_4.length l0_4) (hc0_4 : l0_4.length ≤ c0_4) (hr1 : Kd.C k37 w A1 l1.length l1) (hc1 : l1.length ≤ c1) (h : impl_MirrorOk.f k a0_0 l0_1 a0_2 a0_3 l0_4 a0_5 a0_6 a0_7 l1 = some r) :
  Calls Tryz.prog 27 #[.agg #[.int .i64 a0_0, .slice A0_1 l0_1.length c0_1, .int .i64 a0_2, .string a0_3, .slice A0_4 l0_4.length c0_4, .int .i64 a0_5, .int .i64 a0_6, .string a0_7], .slice A1 l1.length c1] w fun e w' => e = .returned (.bool r) ∧ Below w.heap.size w w' := by
 have hu43 := Tryz.underlying43
 have hu37 := Tryz.underlying37
 have hu41 := Tryz.underlying41
 have HR0_1 := Aside0.mk hr0_1
 have HC0_1 := Aside0.mk hc0_1
 clear hr0_1 hc0_1
 have HR0_4 := Aside0.mk hr0_4
 have HC0_4 := Aside0.mk hc0_4
 clear hr0_4 hc0_4
 have HR1 := Aside0.mk hr1
 have HC1 := Aside0.mk hc1
 clear hr1 hc1
 have HB := Aside0.mk (Below.refl w.heap.size w)
 have H : ((impl_isId.f a0_0).bind fun t602 => (if t602 = true then ((impl_HeadOk.f a0_6 a0_7).bind fun t603 => (if t603 = true then ((impl_isKnown.f k l1 a0_6 a0_7).bind fun t604 => (if t604 = true then ((impl_isKnown.f k l1 a0_2 a0_3).bind fun t605 => (if t605 = true then ((impl_StoreOk.f k l0_1 a0_2 a0_3 l0_4 a0_5).bind fun t606 => (some t606)) else (some false))) else (some false))) else (some false))) else (some false))) = some r := h
 clear h
 replace H := bi_ H; obtain ⟨t602, A3, H⟩ := H
 replace H := itb_ H; obtain ⟨rfl, H⟩ | ⟨rfl, H⟩ := H
 ·replace H := bi_ H; obtain ⟨t603, A5, H⟩ := H
  replace H := itb_ H; obtain ⟨rfl, H⟩ | ⟨rfl, H⟩ := H
  ·replace H := bi_ H; obtain ⟨t604, A7, H⟩ := H
   replace H := itb_ H; obtain ⟨rfl, H⟩ | ⟨rfl, H⟩ := H
   ·replace H := bi_ H; obtain ⟨t605, A9, H⟩ := H
    replace H := itb_ H; obtain ⟨rfl, H⟩ | ⟨rfl, H⟩ := H
    ·replace H := bi_ H; obtain ⟨t606, A11, H⟩ := H
     obtain rfl := Option.some.inj H
     go_enter Tryz.func27, Tryz.ntmps27
     go_wp2_with (first | ((with_reducible refine gd_ 2 ?_); refine bx_ 2 43 #[.int .i64 a0_0, .slice A0_1 l0_1.length c0_1, .int .i64 a0_2, .string a0_3, .slice A0_4 l0_4.length c0_4, .int .i64 a0_5, .int .i64 a0_6, .string a0_7] ?_; intro gb601 hg w12 hbox hb; have BK601 := Aside0.mk hbox; have GW601 := gg_ hg HB; have GE601 := GW601; replace HB := ss_ HB hb; clear hb hbox hg; have hcz13 := cz8_ BK601) | ((with_reducible refine gq_ 59 7 ?_); refine gc_ 7 Tryz.func59 (impl_isId.calls a0_0 true _ A3.out) ?_; rintro e w' ⟨rfl, ⟨nd, rfl⟩⟩; refine ⟨_, rfl, ?_⟩) | (go_at_call 60; (with_reducible refine (impl_HeadOk.calls a0_6 a0_7 true _ A5.out).mono ?_); rintro e w14 ⟨rfl, hb⟩; replace BK601 := kl_ BK601 hb; replace HB := ss_ HB hb; clear hb; have hcz15 := cz8_ BK601) | (go_at_call 61; (with_reducible refine (impl_isKnown.calls k _ _ l1 a0_6 a0_7 true _ ?side1 ?side2 A7.out).mono ?_); (case side1 => exact cb_ HR1 HB); (case side2 => exact HC1.out); rintro e w16 ⟨rfl, hb⟩; replace BK601 := kl_ BK601 hb; replace HB := ss_ HB hb; clear hb; have hcz17 := cz8_ BK601) | (go_at_call 61; (with_reducible refine (impl_isKnown.calls k _ _ l1 a0_2 a0_3 true _ ?side1 ?side2 A9.out).mono ?_); (case side1 => exact cb_ HR1 HB); (case side2 => exact HC1.out); rintro e w18 ⟨rfl, hb⟩; replace BK601 := kl_ BK601 hb; replace HB := ss_ HB hb; clear hb; have hcz19 := cz8_ BK601) | (go_at_call 29; (with_reducible refine (impl_StoreOk.calls k _ _ l0_1 a0_2 a0_3 _ _ l0_4 a0_5 t606 _ ?side1 ?side2 ?side3 ?side4 A11.out).mono ?_); (case side1 => exact cb_ HR0_1 HB); (case side2 => exact HC0_1.out); (case side3 => exact cb_ HR0_4 HB); (case side4 => exact HC0_4.out); rintro e w20 ⟨rfl, hb⟩; replace BK601 := kl_ BK601 hb; replace HB := ss_ HB hb; clear hb))
     go_ret
     exact ⟨e2_, bw_ HB⟩
    ·obtain rfl := Option.some.inj H
     go_enter Tryz.func27, Tryz.ntmps27
     go_wp2_with (first | ((with_reducible refine gd_ 2 ?_); refine bx_ 2 43 #[.int .i64 a0_0, .slice A0_1 l0_1.length c0_1, .int .i64 a0_2, .string a0_3, .slice A0_4 l0_4.length c0_4, .int .i64 a0_5, .int .i64 a0_6, .string a0_7] ?_; intro gb601 hg w21 hbox hb; have BK601 := Aside0.mk hbox; have GW601 := gg_ hg HB; have GE601 := GW601; replace HB := ss_ HB hb; clear hb hbox hg; have hcz22 := cz8_ BK601) | ((with_reducible refine gq_ 59 7 ?_); refine gc_ 7 Tryz.func59 (impl_isId.calls a0_0 true _ A3.out) ?_; rintro e w' ⟨rfl, ⟨nd, rfl⟩⟩; refine ⟨_, rfl, ?_⟩) | (go_at_call 60; (with_reducible refine (impl_HeadOk.calls a0_6 a0_7 true _ A5.out).mono ?_); rintro e w23 ⟨rfl, hb⟩; replace BK601 := kl_ BK601 hb; replace HB := ss_ HB hb; clear hb; have hcz24 := cz8_ BK601) | (go_at_call 61; (with_reducible refine (impl_isKnown.calls k _ _ l1 a0_6 a0_7 true _ ?side1 ?side2 A7.out).mono ?_); (case side1 => exact cb_ HR1 HB); (case side2 => exact HC1.out); rintro e w25 ⟨rfl, hb⟩; replace BK601 := kl_ BK601 hb; replace HB := ss_ HB hb; clear hb; have hcz26 := cz8_ BK601) | (go_at_call 61; (with_reducible refine (impl_isKnown.calls k _ _ l1 a0_2 a0_3 false _ ?side1 ?side2 A9.out).mono ?_); (case side1 => exact cb_ HR1 HB); (case side2 => exact HC1.out); rintro e w27 ⟨rfl, hb⟩; replace BK601 := kl_ BK601 hb; replace HB := ss_ HB hb; clear hb))
     go_ret
     exact ⟨e2_, bw_ HB⟩
   ·obtain rfl := Option.some.inj H
    go_enter Tryz.func27, Tryz.ntmps27
    go_wp2_with (first | ((with_reducible refine gd_ 2 ?_); refine bx_ 2 43 #[.int .i64 a0_0, .slice A0_1 l0_1.length c0_1, .int .i64 a0_2, .string a0_3, .slice A0_4 l0_4.length c0_4, .int .i64 a0_5, .int .i64 a0_6, .string a0_7] ?_; intro gb601 hg w28 hbox hb; have BK601 := Aside0.mk hbox; have GW601 := gg_ hg HB; have GE601 := GW601; replace HB := ss_ HB hb; clear hb hbox hg; have hcz29 := cz8_ BK601) | ((with_reducible refine gq_ 59 7 ?_); refine gc_ 7 Tryz.func59 (impl_isId.calls a0_0 true _ A3.out) ?_; rintro e w' ⟨rfl, ⟨nd, rfl⟩⟩; refine ⟨_, rfl, ?_⟩) | (go_at_call 60; (with_reducible refine (impl_HeadOk.calls a0_6 a0_7 true _ A5.out).mono ?_); rintro e w30 ⟨rfl, hb⟩; replace BK601 := kl_ BK601 hb; replace HB := ss_ HB hb; clear hb; have hcz31 := cz8_ BK601) | (go_at_call 61; (with_reducible refine (impl_isKnown.calls k _ _ l1 a0_6 a0_7 false _ ?side1 ?side2 A7.out).mono ?_); (case side1 => exact cb_ HR1 HB); (case side2 => exact HC1.out); rintro e w32 ⟨rfl, hb⟩; replace BK601 := kl_ BK601 hb; replace HB := ss_ HB hb; clear hb))
    go_ret
    exact ⟨e2_, bw_ HB⟩
  ·obtain rfl := Option.some.inj H
   go_enter Tryz.func27, Tryz.ntmps27
   go_wp2_with (first | ((with_reducible refine gd_ 2 ?_); refine bx_ 2 43 #[.int .i64 a0_0, .slice A0_1 l0_1.length c0_1, .int .i64 a0_2, .string a0_3, .slice A0_4 l0_4.length c0_4, .int .i64 a0_5, .int .i64 a0_6, .string a0_7] ?_; intro gb601 hg w33 hbox hb; have BK601 := Aside0.mk hbox; have GW601 := gg_ hg HB; have GE601 := GW601; replace HB := ss_ HB hb; clear hb hbox hg; have hcz34 := cz8_ BK601) | ((with_reducible refine gq_ 59 7 ?_); refine gc_ 7 Tryz.func59 (impl_isId.calls a0_0 true _ A3.out) ?_; rintro e w' ⟨rfl, ⟨nd, rfl⟩⟩; refine ⟨_, rfl, ?_⟩) | (go_at_call 60; (with_reducible refine (impl_HeadOk.calls a0_6 a0_7 false _ A5.out).mono ?_); rintro e w35 ⟨rfl, hb⟩; replace BK601 := kl_ BK601 hb; replace HB := ss_ HB hb; clear hb))
   go_ret
   exact ⟨e2_, bw_ HB⟩
 ·obtain rfl := Option.some.inj H
  go_enter Tryz.func27, Tryz.ntmps27
  go_wp2_with (first | ((with_reducible refine gd_ 2 ?_); refine bx_ 2 43 #[.int .i64 a0_0, .slice A0_1 l0_1.length c0_1, .int .i64 a0_2, .string a0_3, .slice A0_4 l0_4.length c0_4, .int .i64 a0_5, .int .i64 a0_6, .string a0_7] ?_; intro gb601 hg w36 hbox hb; have BK601 := Aside0.mk hbox; have GW601 := gg_ hg HB; have GE601 := GW601; replace HB := ss_ HB hb; clear hb hbox hg; have hcz37 := cz8_ BK601) | ((with_reducible refine gq_ 59 7 ?_); refine gc_ 7 Tryz.func59 (impl_isId.calls a0_0 false _ A3.out) ?_; rintro e w' ⟨rfl, ⟨nd, rfl⟩⟩; refine ⟨_, rfl, ?_⟩))
  go_ret
  exact ⟨e2_, bw_ HB⟩
end Go.Proofs.YtnlndmoecljicaaGreat.Q
end
section
namespace Go.Proofs.YtnlndmoecljicaaGreat.Q
open Go.RowKit Go.Proofs.YtnlndmoecljicaaGreat.B Go.Proofs.YtnlndmoecljicaaGreatW.PrintWords
set_option linter.unusedVariables false
def isKnown (t : List IHead) (a : Int) (s : ByteArray) : Bool := (a == (headOf []).1 && (s.toList == (headOf []).2.toList)) || hasHead t a s
theorem spec_Known_ev (t : List IHead) (a : Int) (s : ByteArray) (ht : t.length ≤ 9223372036854775807) : Ev (fun k => spec_l14Known.f k t a s) (isKnown t a s) := by
 unfold spec_l14Known.f isKnown
 refine Ev.bind (spec_HeadOf_ev [] (by simp)) ?_
 by_cases h : (a == (headOf []).1 && (s.toList == (headOf []).2.toList)) = true
 ·exact Ev.pos h (Ev.one (Ev.now _) (by rw [h]; rfl))
 ·exact Ev.neg h (Ev.bind (spec_IsSigned_ev t a s ht) (Ev.one (Ev.now _) (by rw [Bool.eq_false_iff.mpr h]; rfl)))
theorem impl_known_ev (t : List IHead) (a : Int) (s : ByteArray) (ht : t.length ≤ 9223372036854775807) : Ev (fun k => impl_isKnown.f k t a s) (isKnown t a s) := by
 unfold impl_isKnown.f isKnown
 refine Ev.bind (impl_HeadOf_ev [] (by simp)) ?_
 by_cases h : (a == (headOf []).1 && (s.toList == (headOf []).2.toList)) = true
 ·exact Ev.pos h (Ev.one (Ev.now _) (by rw [h]; rfl))
 ·exact Ev.neg h (Ev.bind (impl_IsSigned_ev t a s ht) (Ev.one (Ev.now _) (by rw [Bool.eq_false_iff.mpr h]; rfl)))
theorem isId_eq (i : Int) : impl_isId.f i = some (decide (0 ≤ i ∧ i ≤ 20)) := by
 unfold impl_isId.f
 rw [impl_in_eq]
 rfl
theorem mirrorOk_told (i : Int) (l : List ByteArray) (n : Int) (s : ByteArray) (b : List Int) (u c : Int) (z : ByteArray) (t : List IHead) (hb : InB b) (hl : b.length ≤ 1048576) (hs : ∀ x ∈ l, x.size ≤ bigB) (ht : t.length ≤ 9223372036854775807) :
  ∃ r, Ev (fun k => spec_MirrorOk.f k i l n s b u c z t) r ∧ Ev (fun k => impl_MirrorOk.f k i l n s b u c z t) r ∧ (r = true → (0 ≤ i ∧ i ≤ 20) ∧ headOk c z = true ∧ isKnown t c z = true ∧ isKnown t n s = true ∧ Ev (fun k => impl_StoreOk.f k l n s b u) true) ∧ ((0 ≤ i ∧ i ≤ 20) → headOk c z = true → isKnown t c z = true → isKnown t n s = true → Ev (fun k => impl_StoreOk.f k l n s b u) true → r = true) := by
 obtain ⟨q, q1, q2⟩ := storeOk_both l n s b u hb hl hs
 have k1 := spec_Known_ev t c z ht
 have k2 := impl_known_ev t c z ht
 have k3 := spec_Known_ev t n s ht
 have k4 := impl_known_ev t n s ht
 refine ⟨decide (0 ≤ i ∧ i ≤ 20) && (headOk c z && (isKnown t c z && (isKnown t n s && q))), ?_, ?_, fun hr => ?_, fun g1 g2 g3 g4 g5 => ?_⟩
 ·unfold spec_MirrorOk.f
  refine Ev.bind (Ev.const (spec_in_eq _ _ _)) ?_
  by_cases h : decide (0 ≤ i ∧ i ≤ 20) = true
  ·rw [h]
   refine Ev.pos rfl (Ev.bind q1 ?_)
   cases q with
   | false => exact Ev.neg (by simp) (Ev.one (Ev.now _) (by simp))
   | true =>
    refine Ev.pos rfl (Ev.bind (Ev.const (spec_HeadOk_eq c z)) ?_)
    by_cases h2 : headOk c z = true
    ·rw [h2]
     refine Ev.pos rfl (Ev.bind k1 ?_)
     by_cases h3 : isKnown t c z = true
     ·rw [h3]
      exact Ev.pos rfl (Ev.bind k3 (Ev.one (Ev.now _) (by simp)))
     ·rw [Bool.eq_false_iff.mpr h3]
      exact Ev.neg (by simp) (Ev.one (Ev.now _) (by simp))
    ·rw [Bool.eq_false_iff.mpr h2]
     exact Ev.neg (by simp) (Ev.one (Ev.now _) (by simp))
  ·rw [Bool.eq_false_iff.mpr h]
   exact Ev.neg (by simp) (Ev.one (Ev.now _) (by simp))
 ·unfold impl_MirrorOk.f
  refine Ev.bind (Ev.const (isId_eq _)) ?_
  by_cases h : decide (0 ≤ i ∧ i ≤ 20) = true
  ·rw [h]
   refine Ev.pos rfl (Ev.bind (Ev.const (impl_HeadOk_eq c z)) ?_)
   by_cases h2 : headOk c z = true
   ·rw [h2]
    refine Ev.pos rfl (Ev.bind k2 ?_)
    by_cases h3 : isKnown t c z = true
    ·rw [h3]
     refine Ev.pos rfl (Ev.bind k4 ?_)
     by_cases h4 : isKnown t n s = true
     ·rw [h4]
      exact Ev.pos rfl (Ev.bind q2 (Ev.one (Ev.now _) (by simp)))
     ·rw [Bool.eq_false_iff.mpr h4]
      exact Ev.neg (by simp) (Ev.one (Ev.now _) (by simp))
    ·rw [Bool.eq_false_iff.mpr h3]
     exact Ev.neg (by simp) (Ev.one (Ev.now _) (by simp))
   ·rw [Bool.eq_false_iff.mpr h2]
    exact Ev.neg (by simp) (Ev.one (Ev.now _) (by simp))
  ·rw [Bool.eq_false_iff.mpr h]
   exact Ev.neg (by simp) (Ev.one (Ev.now _) (by simp))
 ·simp only [Bool.and_eq_true, decide_eq_true_eq] at hr
  obtain ⟨e1, e2, e3, e4, e5⟩ := hr
  rw [e5] at q2
  exact ⟨e1, e2, e3, e4, q2⟩
 ·rw [ev_uniq q2 g5, decide_eq_true g1, g2, g3, g4]
  rfl
end Go.Proofs.YtnlndmoecljicaaGreat.Q
end
section
namespace Go.Proofs.YtnlndmoecljicaaGreat.Q
open Go.RowKit Go.Proofs.YtnlndmoecljicaaGreatW.PrintWords Go.Proofs.YtnlndmoecljicaaGreatW.PrintLast Go.Proofs.YtnlndmoecljicaaGreatW.PrintMore
attribute [local go_sem] max2_int min2_int max_two min_two max_three min_three max_four min_four   -- for this text's walks alone
set_option linter.unusedVariables false
set_option linter.unusedSimpArgs false
def IsS43 (w0 W : World) (g : Nat) (f0 : Int) (f1 : List ByteArray) (f2 : Int) (f3 : ByteArray) (f4 : List Int) (f5 : Int) (f6 : Int) (f7 : ByteArray) : Prop := ∃ A1 c1, ∃ A4 c4, W.heap[g]? = some (.cells #[.int .i64 f0, .slice A1 f1.length c1, .int .i64 f2, .string f3, .slice A4 f4.length c4, .int .i64 f5, .int .i64 f6, .string f7] 43 (0, 0)) ∧ w0.heap.size ≤ g ∧ Kd.C Kd.string w0 A1 f1.length f1 ∧ Kd.C (Kd.int .u8) w0 A4 f4.length f4 ∧ f1.length ≤ c1 ∧ f4.length ≤ c4
theorem IsS43.grown {w0 W : World} {g : Nat} {f0 : Int} {f1 : List ByteArray} {f2 : Int} {f3 : ByteArray} {f4 : List Int} {f5 : Int} {f6 : Int} {f7 : ByteArray} {W1 : World} {row : Option Nat} (h : IsS43 w0 W g f0 f1 f2 f3 f4 f5 f6 f7) (hw : W.grownBy W1 row) (hne : some g ≠ row) : IsS43 w0 W1 g f0 f1 f2 f3 f4 f5 f6 f7 := by
 obtain ⟨A1, c1, A4, c4, hb, hg, hr1, hr4, hq1, hq4⟩ := h
 exact ⟨A1, c1, A4, c4, blk_grown hb hw hne, hg, hr1, hr4, hq1, hq4⟩
theorem IsS43.kept {w0 W : World} {g : Nat} {f0 : Int} {f1 : List ByteArray} {f2 : Int} {f3 : ByteArray} {f4 : List Int} {f5 : Int} {f6 : Int} {f7 : ByteArray} {W1 : World} {S : Nat → Prop} (h : IsS43 w0 W g f0 f1 f2 f3 f4 f5 f6 f7) (hk : Kept W W1 S) (hne : ¬ S g) : IsS43 w0 W1 g f0 f1 f2 f3 f4 f5 f6 f7 := by
 obtain ⟨A1, c1, A4, c4, hb, hg, hr1, hr4, hq1, hq4⟩ := h
 exact ⟨A1, c1, A4, c4, blk_kept hb hk hne, hg, hr1, hr4, hq1, hq4⟩
theorem IsS43.below {w0 W : World} {g : Nat} {f0 : Int} {f1 : List ByteArray} {f2 : Int} {f3 : ByteArray} {f4 : List Int} {f5 : Int} {f6 : Int} {f7 : ByteArray} {W1 : World} (h : IsS43 w0 W g f0 f1 f2 f3 f4 f5 f6 f7) (hw : Below W.heap.size W W1) : IsS43 w0 W1 g f0 f1 f2 f3 f4 f5 f6 f7 := h.grown (grown_of_below hw none) (by simp)
theorem IsS43.alloc {w0 W : World} {g : Nat} {f0 : Int} {f1 : List ByteArray} {f2 : Int} {f3 : ByteArray} {f4 : List Int} {f5 : Int} {f6 : Int} {f7 : ByteArray} (h : IsS43 w0 W g f0 f1 f2 f3 f4 f5 f6 f7) (o : Obj) : IsS43 w0 (W.alloc o) g f0 f1 f2 f3 f4 f5 f6 f7 := h.below (below_alloc (Below.refl _ _) o)
theorem IsS43.drewN {w0 W : World} {g : Nat} {f0 : Int} {f1 : List ByteArray} {f2 : Int} {f3 : ByteArray} {f4 : List Int} {f5 : Int} {f6 : Int} {f7 : ByteArray} (h : IsS43 w0 W g f0 f1 f2 f3 f4 f5 f6 f7) (m : Nat) : IsS43 w0 (W.drewN m) g f0 f1 f2 f3 f4 f5 f6 f7 := h
theorem IsS43.drew {w0 W : World} {g : Nat} {f0 : Int} {f1 : List ByteArray} {f2 : Int} {f3 : ByteArray} {f4 : List Int} {f5 : Int} {f6 : Int} {f7 : ByteArray} (h : IsS43 w0 W g f0 f1 f2 f3 f4 f5 f6 f7) : IsS43 w0 W.drew g f0 f1 f2 f3 f4 f5 f6 f7 := h
theorem IsS43.at_ {w0 W : World} {g : Nat} {f0 : Int} {f1 : List ByteArray} {f2 : Int} {f3 : ByteArray} {f4 : List Int} {f5 : Int} {f6 : Int} {f7 : ByteArray} {w' : World} {m : Nat} (hq : W.drewN m = w') (h : IsS43 w0 W g f0 f1 f2 f3 f4 f5 f6 f7) : IsS43 w0 w' g f0 f1 f2 f3 f4 f5 f6 f7 := by subst hq; exact IsS43.drewN h m
theorem IsS43.apart {w0 W : World} {g : Nat} {f0 : Int} {f1 : List ByteArray} {f2 : Int} {f3 : ByteArray} {f4 : List Int} {f5 : Int} {f6 : Int} {f7 : ByteArray} {α : Type} {d : Kd α} {e : Nat} {base : Nat} {ok : Nat → Prop} {v : Value} {xs : List α} (h : IsS43 w0 W g f0 f1 f2 f3 f4 f5 f6 f7) (ho : d.R e W base ok v xs) (ht : ∀ q, q ∈ e :: d.E → q ≠ 43) : d.R e W base (fun k => ok k ∧ k ≠ g) v xs := by
 obtain ⟨A1, c1, A4, c4, hb, hg, hr1, hr4, hq1, hq4⟩ := h
 exact Kd.R_types ho hb ht
theorem IsS43.own_ne {w0 W : World} {g : Nat} {f0 : Int} {f1 : List ByteArray} {f2 : Int} {f3 : ByteArray} {f4 : List Int} {f5 : Int} {f6 : Int} {f7 : ByteArray} {α : Type} {d : Kd α} {e : Nat} {base : Nat} {ok : Nat → Prop} {v : Value} {xs : List α} (h : IsS43 w0 W g f0 f1 f2 f3 f4 f5 f6 f7) (ho : d.R e W base ok v xs) (ht : e ≠ 43) : some g ≠ v.ownBlock := by
 obtain ⟨A1, c1, A4, c4, hb, hg, hr1, hr4, hq1, hq4⟩ := h
 exact Kd.R_ne ho hb ht
theorem IsS43.lt {w0 W : World} {g : Nat} {f0 : Int} {f1 : List ByteArray} {f2 : Int} {f3 : ByteArray} {f4 : List Int} {f5 : Int} {f6 : Int} {f7 : ByteArray} (h : IsS43 w0 W g f0 f1 f2 f3 f4 f5 f6 f7) : g < W.heap.size := by
 obtain ⟨A1, c1, A4, c4, hb, hg, hr1, hr4, hq1, hq4⟩ := h
 exact blk_lt hb
theorem IsS43.ge {w0 W : World} {g : Nat} {f0 : Int} {f1 : List ByteArray} {f2 : Int} {f3 : ByteArray} {f4 : List Int} {f5 : Int} {f6 : Int} {f7 : ByteArray} (h : IsS43 w0 W g f0 f1 f2 f3 f4 f5 f6 f7) : w0.heap.size ≤ g := by
 obtain ⟨A1, c1, A4, c4, hb, hg, hr1, hr4, hq1, hq4⟩ := h
 exact hg
theorem IsS43.far {w0 W : World} {g : Nat} {f0 : Int} {f1 : List ByteArray} {f2 : Int} {f3 : ByteArray} {f4 : List Int} {f5 : Int} {f6 : Int} {f7 : ByteArray} {p : Addr} (h : IsS43 w0 W g f0 f1 f2 f3 f4 f5 f6 f7) (hne : g ≠ p.block) (u : Value) : IsS43 w0 (W.setCell p u) g f0 f1 f2 f3 f4 f5 f6 f7 := by
 obtain ⟨A1, c1, A4, c4, hb, hg, hr1, hr4, hq1, hq4⟩ := h
 exact ⟨A1, c1, A4, c4, blk_far hb hne u, hg, hr1, hr4, hq1, hq4⟩
theorem cellS43_0 {W : World} {g : Nat} {A1 : Option Addr} {c1 : Nat} {A4 : Option Addr} {c4 : Nat} {f0 : Int} {f1 : List ByteArray} {f2 : Int} {f3 : ByteArray} {f4 : List Int} {f5 : Int} {f6 : Int} {f7 : ByteArray} (h : W.heap[g]? = some (.cells #[.int .i64 f0, .slice A1 f1.length c1, .int .i64 f2, .string f3, .slice A4 f4.length c4, .int .i64 f5, .int .i64 f6, .string f7] 43 (0, 0))) : W.cell? ⟨g, 0, none⟩ = some (.int .i64 f0) := (blk_cell h 0).trans rfl
theorem IsS43.set_0 {w0 W : World} {g : Nat} {f0 : Int} {f1 : List ByteArray} {f2 : Int} {f3 : ByteArray} {f4 : List Int} {f5 : Int} {f6 : Int} {f7 : ByteArray} (h : IsS43 w0 W g f0 f1 f2 f3 f4 f5 f6 f7) (x : Int) : IsS43 w0 (W.setCell ⟨g, 0, none⟩ (.int .i64 x)) g x f1 f2 f3 f4 f5 f6 f7 := by
 obtain ⟨A1, c1, A4, c4, hb, hg, hr1, hr4, hq1, hq4⟩ := h
 exact ⟨A1, c1, A4, c4, by simpa using blk_set hb 0 (.int .i64 x), hg, hr1, hr4, hq1, hq4⟩
theorem cellS43_1 {W : World} {g : Nat} {A1 : Option Addr} {c1 : Nat} {A4 : Option Addr} {c4 : Nat} {f0 : Int} {f1 : List ByteArray} {f2 : Int} {f3 : ByteArray} {f4 : List Int} {f5 : Int} {f6 : Int} {f7 : ByteArray} (h : W.heap[g]? = some (.cells #[.int .i64 f0, .slice A1 f1.length c1, .int .i64 f2, .string f3, .slice A4 f4.length c4, .int .i64 f5, .int .i64 f6, .string f7] 43 (0, 0))) : W.cell? ⟨g, 1, none⟩ = some (.slice A1 f1.length c1) := (blk_cell h 1).trans rfl
theorem cellS43_2 {W : World} {g : Nat} {A1 : Option Addr} {c1 : Nat} {A4 : Option Addr} {c4 : Nat} {f0 : Int} {f1 : List ByteArray} {f2 : Int} {f3 : ByteArray} {f4 : List Int} {f5 : Int} {f6 : Int} {f7 : ByteArray} (h : W.heap[g]? = some (.cells #[.int .i64 f0, .slice A1 f1.length c1, .int .i64 f2, .string f3, .slice A4 f4.length c4, .int .i64 f5, .int .i64 f6, .string f7] 43 (0, 0))) : W.cell? ⟨g, 2, none⟩ = some (.int .i64 f2) := (blk_cell h 2).trans rfl
theorem IsS43.set_2 {w0 W : World} {g : Nat} {f0 : Int} {f1 : List ByteArray} {f2 : Int} {f3 : ByteArray} {f4 : List Int} {f5 : Int} {f6 : Int} {f7 : ByteArray} (h : IsS43 w0 W g f0 f1 f2 f3 f4 f5 f6 f7) (x : Int) : IsS43 w0 (W.setCell ⟨g, 2, none⟩ (.int .i64 x)) g f0 f1 x f3 f4 f5 f6 f7 := by
 obtain ⟨A1, c1, A4, c4, hb, hg, hr1, hr4, hq1, hq4⟩ := h
 exact ⟨A1, c1, A4, c4, by simpa using blk_set hb 2 (.int .i64 x), hg, hr1, hr4, hq1, hq4⟩
theorem cellS43_3 {W : World} {g : Nat} {A1 : Option Addr} {c1 : Nat} {A4 : Option Addr} {c4 : Nat} {f0 : Int} {f1 : List ByteArray} {f2 : Int} {f3 : ByteArray} {f4 : List Int} {f5 : Int} {f6 : Int} {f7 : ByteArray} (h : W.heap[g]? = some (.cells #[.int .i64 f0, .slice A1 f1.length c1, .int .i64 f2, .string f3, .slice A4 f4.length c4, .int .i64 f5, .int .i64 f6, .string f7] 43 (0, 0))) : W.cell? ⟨g, 3, none⟩ = some (.string f3) := (blk_cell h 3).trans rfl
theorem IsS43.set_3 {w0 W : World} {g : Nat} {f0 : Int} {f1 : List ByteArray} {f2 : Int} {f3 : ByteArray} {f4 : List Int} {f5 : Int} {f6 : Int} {f7 : ByteArray} (h : IsS43 w0 W g f0 f1 f2 f3 f4 f5 f6 f7) (x : ByteArray) : IsS43 w0 (W.setCell ⟨g, 3, none⟩ (.string x)) g f0 f1 f2 x f4 f5 f6 f7 := by
 obtain ⟨A1, c1, A4, c4, hb, hg, hr1, hr4, hq1, hq4⟩ := h
 exact ⟨A1, c1, A4, c4, by simpa using blk_set hb 3 (.string x), hg, hr1, hr4, hq1, hq4⟩
theorem cellS43_4 {W : World} {g : Nat} {A1 : Option Addr} {c1 : Nat} {A4 : Option Addr} {c4 : Nat} {f0 : Int} {f1 : List ByteArray} {f2 : Int} {f3 : ByteArray} {f4 : List Int} {f5 : Int} {f6 : Int} {f7 : ByteArray} (h : W.heap[g]? = some (.cells #[.int .i64 f0, .slice A1 f1.length c1, .int .i64 f2, .string f3, .slice A4 f4.length c4, .int .i64 f5, .int .i64 f6, .string f7] 43 (0, 0))) : W.cell? ⟨g, 4, none⟩ = some (.slice A4 f4.length c4) := (blk_cell h 4).trans rfl
theorem cellS43_5 {W : World} {g : Nat} {A1 : Option Addr} {c1 : Nat} {A4 : Option Addr} {c4 : Nat} {f0 : Int} {f1 : List ByteArray} {f2 : Int} {f3 : ByteArray} {f4 : List Int} {f5 : Int} {f6 : Int} {f7 : ByteArray} (h : W.heap[g]? = some (.cells #[.int .i64 f0, .slice A1 f1.length c1, .int .i64 f2, .string f3, .slice A4 f4.length c4, .int .i64 f5, .int .i64 f6, .string f7] 43 (0, 0))) : W.cell? ⟨g, 5, none⟩ = some (.int .i64 f5) := (blk_cell h 5).trans rfl
theorem IsS43.set_5 {w0 W : World} {g : Nat} {f0 : Int} {f1 : List ByteArray} {f2 : Int} {f3 : ByteArray} {f4 : List Int} {f5 : Int} {f6 : Int} {f7 : ByteArray} (h : IsS43 w0 W g f0 f1 f2 f3 f4 f5 f6 f7) (x : Int) : IsS43 w0 (W.setCell ⟨g, 5, none⟩ (.int .i64 x)) g f0 f1 f2 f3 f4 x f6 f7 := by
 obtain ⟨A1, c1, A4, c4, hb, hg, hr1, hr4, hq1, hq4⟩ := h
 exact ⟨A1, c1, A4, c4, by simpa using blk_set hb 5 (.int .i64 x), hg, hr1, hr4, hq1, hq4⟩
theorem cellS43_6 {W : World} {g : Nat} {A1 : Option Addr} {c1 : Nat} {A4 : Option Addr} {c4 : Nat} {f0 : Int} {f1 : List ByteArray} {f2 : Int} {f3 : ByteArray} {f4 : List Int} {f5 : Int} {f6 : Int} {f7 : ByteArray} (h : W.heap[g]? = some (.cells #[.int .i64 f0, .slice A1 f1.length c1, .int .i64 f2, .string f3, .slice A4 f4.length c4, .int .i64 f5, .int .i64 f6, .string f7] 43 (0, 0))) : W.cell? ⟨g, 6, none⟩ = some (.int .i64 f6) := (blk_cell h 6).trans rfl
theorem IsS43.set_6 {w0 W : World} {g : Nat} {f0 : Int} {f1 : List ByteArray} {f2 : Int} {f3 : ByteArray} {f4 : List Int} {f5 : Int} {f6 : Int} {f7 : ByteArray} (h : IsS43 w0 W g f0 f1 f2 f3 f4 f5 f6 f7) (x : Int) : IsS43 w0 (W.setCell ⟨g, 6, none⟩ (.int .i64 x)) g f0 f1 f2 f3 f4 f5 x f7 := by
 obtain ⟨A1, c1, A4, c4, hb, hg, hr1, hr4, hq1, hq4⟩ := h
 exact ⟨A1, c1, A4, c4, by simpa using blk_set hb 6 (.int .i64 x), hg, hr1, hr4, hq1, hq4⟩
theorem cellS43_7 {W : World} {g : Nat} {A1 : Option Addr} {c1 : Nat} {A4 : Option Addr} {c4 : Nat} {f0 : Int} {f1 : List ByteArray} {f2 : Int} {f3 : ByteArray} {f4 : List Int} {f5 : Int} {f6 : Int} {f7 : ByteArray} (h : W.heap[g]? = some (.cells #[.int .i64 f0, .slice A1 f1.length c1, .int .i64 f2, .string f3, .slice A4 f4.length c4, .int .i64 f5, .int .i64 f6, .string f7] 43 (0, 0))) : W.cell? ⟨g, 7, none⟩ = some (.string f7) := (blk_cell h 7).trans rfl
theorem IsS43.set_7 {w0 W : World} {g : Nat} {f0 : Int} {f1 : List ByteArray} {f2 : Int} {f3 : ByteArray} {f4 : List Int} {f5 : Int} {f6 : Int} {f7 : ByteArray} (h : IsS43 w0 W g f0 f1 f2 f3 f4 f5 f6 f7) (x : ByteArray) : IsS43 w0 (W.setCell ⟨g, 7, none⟩ (.string x)) g f0 f1 f2 f3 f4 f5 f6 x := by
 obtain ⟨A1, c1, A4, c4, hb, hg, hr1, hr4, hq1, hq4⟩ := h
 exact ⟨A1, c1, A4, c4, by simpa using blk_set hb 7 (.string x), hg, hr1, hr4, hq1, hq4⟩
theorem IsS43.new (w0 W : World) (A1 : Option Addr) (c1 : Nat) (A4 : Option Addr) (c4 : Nat) (f0 : Int) (f1 : List ByteArray) (f2 : Int) (f3 : ByteArray) (f4 : List Int) (f5 : Int) (f6 : Int) (f7 : ByteArray) (hB : Below w0.heap.size w0 W) (hr1 : Kd.C Kd.string w0 A1 f1.length f1) (hr4 : Kd.C (Kd.int .u8) w0 A4 f4.length f4) (hq1 : f1.length ≤ c1) (hq4 : f4.length ≤ c4) : IsS43 w0 (W.alloc (.cells #[.int .i64 f0, .slice A1 f1.length c1, .int .i64 f2, .string f3, .slice A4 f4.length c4, .int .i64 f5, .int .i64 f6, .string f7] 43)) W.heap.size f0 f1 f2 f3 f4 f5 f6 f7 := ⟨A1, c1, A4, c4, by simpa using heap_alloc_new W _, hB.size, hr1, hr4, hq1, hq4⟩
theorem in43_ {w0 w1 w2 : World} {g : Nat} {f0 : Int} {f1 : List ByteArray} {f2 : Int} {f3 : ByteArray} {f4 : List Int} {f5 : Int} {f6 : Int} {f7 : ByteArray} {f02 : Int} {f12 : List ByteArray} {f22 : Int} {f32 : ByteArray} {f42 : List Int} {f52 : Int} {f62 : Int} {f72 : ByteArray} (h : Aside0 (IsS43 w0 w1 g f0 f1 f2 f3 f4 f5 f6 f7)) (f : IsS43 w0 w1 g f0 f1 f2 f3 f4 f5 f6 f7 → IsS43 w0 w2 g f02 f12 f22 f32 f42 f52 f62 f72 := by intro h_; repeat (first | (with_reducible first | exact h_ | apply IsS43.alloc | apply IsS43.drewN | apply IsS43.drew | apply IsS43.set_0 | apply IsS43.set_2 | apply IsS43.set_3 | apply IsS43.set_5 | apply IsS43.set_6 | apply IsS43.set_7 | refine IsS43.far ?_ (Aside0.out (by assumption)) _) | exact h_)) : IsS43 w0 w2 g f02 f12 f22 f32 f42 f52 f62 f72 := f h.out
theorem bi43_ {w w1 w2 : World} (h : Aside0 (Below w.heap.size w w1)) (g : Below w.heap.size w w1 → Below w.heap.size w w2 := by intro h_; repeat (first | (with_reducible first | exact h_ | apply below_alloc | apply pw_below_drewN | apply below_drew1 | refine below_set ?_ (Aside0.out (by assumption)) | refine below_set ?_ (IsS43.ge (Aside0.out (by assumption)))) | exact h_)) : Below w.heap.size w w2 := g h.out
def impl_Mirror_isOther.f (s0_0 : Int) (s0_1 : List ByteArray) (s0_2 : Int) (s0_3 : ByteArray) (s0_4 : List Int) (s0_5 : Int) (s0_6 : Int) (s0_7 : ByteArray) (a1 : Int) : Option (Bool × Int × Int × ByteArray × Int × Int × ByteArray) := (impl_isId.f a1).bind fun t601 => (if t601 = true then (some ((a1 != s0_0), s0_0, s0_2, s0_3, s0_5, s0_6, s0_7)) else (some (false, s0_0, s0_2, s0_3, s0_5, s0_6, s0_7)))
set_option maxHeartbeats 8000000 in
set_option maxRecDepth 100000 in
theorem impl_Mirror_isOther.calls (g : Nat) (s0_0 : Int) (s0_1 : List ByteArray) (s0_2 : Int) (s0_3 : ByteArray) (s0_4 : List Int) (s0_5 : Int) (s0_6 : Int) (s0_7 : ByteArray) (a1 : Int) (r1 : Bool) (r2 : Int) (r3 : Int) (r4 : ByteArray) (r5 : Int) (r6 : Int) (r7 : ByteArray) (w0 w : World) (hI : IsS43 w0 w g s0_0 s0_1 s0_2 s0_3 s0_4 s0_5 s0_6 s0_7) (hB : Below w0.heap.size w0 w) (h : impl_Mirror_isOther.f s0_0 s0_1 s0_2 s0_3 s0_4 s0_5 s0_6 s0_7 a1 = some (r1, r2, r3, r4, r5, r6, r7)) :
  Calls Tryz.prog 79 #[.pointer (some ⟨g, 0, none⟩), .int .i64 a1] w fun e w' => e = .returned (.bool r1) ∧ IsS43 w0 w' g r2 s0_1 r3 r4 s0_4 r5 r6 r7 ∧ Below w0.heap.size w0 w' ∧ KeepBut w w' g none := by
 have HI0 := Aside0.mk hI
 have HK := Aside0.mk (KeepBut.refl w g none)
 have HL := Aside0.mk hB.size
 clear hI
 have HW0 := Aside0.mk hB.size
 have HB := Aside0.mk hB
 clear hB
 have H : ((impl_isId.f a1).bind fun t601 => (if t601 = true then (some ((a1 != s0_0), s0_0, s0_2, s0_3, s0_5, s0_6, s0_7)) else (some (false, s0_0, s0_2, s0_3, s0_5, s0_6, s0_7)))) = some (r1, r2, r3, r4, r5, r6, r7) := h
 clear h
 replace H := bi_ H; obtain ⟨t601, A3, H⟩ := H
 replace H := itb_ H; obtain ⟨rfl, H⟩ | ⟨rfl, H⟩ := H
 ·replace H := so7_ H; obtain ⟨rfl, rfl, rfl, rfl, rfl, rfl, rfl⟩ := H
  go_enter Tryz.func79, Tryz.ntmps79
  go_wp2_with (first | ((with_reducible refine gq_ 59 6 ?_); refine gc_ 6 Tryz.func59 (impl_isId.calls a1 true _ A3.out) ?_; rintro e w' ⟨rfl, ⟨nd, rfl⟩⟩; refine ⟨_, rfl, ?_⟩; obtain ⟨ASz5_1, cSz5_1, ASz5_4, cSz5_4, HGz5, hgz5, HSz5_1, HSz5_4, HSQz5_1, HSQz5_4⟩ := HI0.out; have hcz5_0 := cellS43_0 HGz5; have hcz5_1 := cellS43_1 HGz5; have hcz5_2 := cellS43_2 HGz5; have hcz5_3 := cellS43_3 HGz5; have hcz5_4 := cellS43_4 HGz5; have hcz5_5 := cellS43_5 HGz5; have hcz5_6 := cellS43_6 HGz5; have hcz5_7 := cellS43_7 HGz5; have hfz5_0 := blk_frozen HGz5 0; have hfz5_2 := blk_frozen HGz5 2; have hfz5_3 := blk_frozen HGz5 3; have hfz5_5 := blk_frozen HGz5 5; have hfz5_6 := blk_frozen HGz5 6; have hfz5_7 := blk_frozen HGz5 7; clear HGz5 hgz5))
  go_ret
  exact ⟨e2_, in43_ HI0, bi43_ HB, kn_ HK⟩
 ·replace H := so7_ H; obtain ⟨rfl, rfl, rfl, rfl, rfl, rfl, rfl⟩ := H
  go_enter Tryz.func79, Tryz.ntmps79
  go_wp2_with (first | ((with_reducible refine gq_ 59 6 ?_); refine gc_ 6 Tryz.func59 (impl_isId.calls a1 false _ A3.out) ?_; rintro e w' ⟨rfl, ⟨nd, rfl⟩⟩; refine ⟨_, rfl, ?_⟩))
  go_ret
  exact ⟨e2_, in43_ HI0, bi43_ HB, kn_ HK⟩
end Go.Proofs.YtnlndmoecljicaaGreat.Q
end
section
namespace Go.Proofs.YtnlndmoecljicaaGreat.Q
open Go.RowKit Go.Proofs.YtnlndmoecljicaaGreatW.PrintWords Go.Proofs.YtnlndmoecljicaaGreatW.PrintLast Go.Proofs.YtnlndmoecljicaaGreatW.PrintMore
set_option linter.unusedVariables false
set_option linter.unusedSimpArgs false
theorem IsS43.called {w0 W : World} {g : Nat} {f0 : Int} {f1 : List ByteArray} {f2 : Int} {f3 : ByteArray} {f4 : List Int} {f5 f6 : Int} {f7 : ByteArray} {P : Program} {f_ : FuncId} {as_ : Array Value} {Q_ : Ending → World → Prop} (h : IsS43 w0 W g f0 f1 f2 f3 f4 f5 f6 f7) (k : Aside0 (IsS43 w0 W g f0 f1 f2 f3 f4 f5 f6 f7) → Calls P f_ as_ W Q_) : Calls P f_ as_ W Q_ := k ⟨h⟩
theorem isOther_same {a : Int} {l : List ByteArray} {b : Int} {c : ByteArray} {d : List Int} {e f : Int} {g : ByteArray} {x : Int} {r1 : Bool} {r2 r3 : Int} {r4 : ByteArray} {r5 r6 : Int} {r7 : ByteArray} (h : impl_Mirror_isOther.f a l b c d e f g x = some (r1, r2, r3, r4, r5, r6, r7)) : r2 = a ∧ r3 = b ∧ r4 = c ∧ r5 = e ∧ r6 = f ∧ r7 = g := by
 unfold impl_Mirror_isOther.f at h
 obtain ⟨t, _, h⟩ := Option.bind_eq_some_iff.mp h
 by_cases ht : t = true
 ·rw [if_pos ht] at h
  simp only [Option.some.injEq, Prod.mk.injEq] at h
  obtain ⟨_, rfl, rfl, rfl, rfl, rfl, rfl⟩ := h
  exact ⟨rfl, rfl, rfl, rfl, rfl, rfl⟩
 ·rw [if_neg ht] at h
  simp only [Option.some.injEq, Prod.mk.injEq] at h
  obtain ⟨_, rfl, rfl, rfl, rfl, rfl, rfl⟩ := h
  exact ⟨rfl, rfl, rfl, rfl, rfl, rfl⟩
def impl_Mirror_gossip.f (a : Int) (l : List ByteArray) (b : Int) (c : ByteArray) (d : List Int) (e f : Int) (g : ByteArray) (x : Int) : Option (List S65 × Int × Int × ByteArray × Int × Int × ByteArray) :=
 (impl_Mirror_isOther.f a l b c d e f g x).bind fun t => (if t.1 = true then some ([(⟨1, a, x, (⟨f, g⟩ : S37), 0, ([] : List ByteArray)⟩ : S65)], a, b, c, e, f, g) else some ([], a, b, c, e, f, g))
end Go.Proofs.YtnlndmoecljicaaGreat.Q
end
section
namespace Go.Proofs.YtnlndmoecljicaaGreat.Q
open Go.RowKit Go.Proofs.YtnlndmoecljicaaGreatW.PrintWords Go.Proofs.YtnlndmoecljicaaGreatW.PrintLast Go.Proofs.YtnlndmoecljicaaGreatW.PrintMore
attribute [local go_sem] max2_int min2_int max_two min_two max_three min_three max_four min_four   -- for this text's walks alone
set_option linter.unusedVariables false
set_option linter.unusedSimpArgs false
def impl_Mirror_count.f (s0_0 : Int) (s0_1 : List ByteArray) (s0_2 : Int) (s0_3 : ByteArray) (s0_4 : List Int) (s0_5 : Int) (s0_6 : Int) (s0_7 : ByteArray) : Option (Int × Int × Int × ByteArray × Int × Int × ByteArray) := some ((s0_1.length : Int), s0_0, s0_2, s0_3, s0_5, s0_6, s0_7)
set_option maxHeartbeats 8000000 in
set_option maxRecDepth 100000 in
theorem impl_Mirror_count.calls (g : Nat) (s0_0 : Int) (s0_1 : List ByteArray) (s0_2 : Int) (s0_3 : ByteArray) (s0_4 : List Int) (s0_5 : Int) (s0_6 : Int) (s0_7 : ByteArray) (r1 : Int) (r2 : Int) (r3 : Int) (r4 : ByteArray) (r5 : Int) (r6 : Int) (r7 : ByteArray) (w0 w : World) (hI : IsS43 w0 w g s0_0 s0_1 s0_2 s0_3 s0_4 s0_5 s0_6 s0_7) (hB : Below w0.heap.size w0 w) (h : impl_Mirror_count.f s0_0 s0_1 s0_2 s0_3 s0_4 s0_5 s0_6 s0_7 = some (r1, r2, r3, r4, r5, r6, r7)) :
  Calls Tryz.prog 80 #[.pointer (some ⟨g, 0, none⟩)] w fun e w' => e = .returned (.int .i64 r1) ∧ IsS43 w0 w' g r2 s0_1 r3 r4 s0_4 r5 r6 r7 ∧ Below w0.heap.size w0 w' ∧ KeepBut w w' g none := by
 have HI0 := Aside0.mk hI
 have HK := Aside0.mk (KeepBut.refl w g none)
 have HL := Aside0.mk hB.size
 clear hI
 have HW0 := Aside0.mk hB.size
 have HB := Aside0.mk hB
 clear hB
 have H : (some ((s0_1.length : Int), s0_0, s0_2, s0_3, s0_5, s0_6, s0_7)) = some (r1, r2, r3, r4, r5, r6, r7) := h
 clear h
 replace H := so7_ H; obtain ⟨rfl, rfl, rfl, rfl, rfl, rfl, rfl⟩ := H
 obtain ⟨ASz2_1, cSz2_1, ASz2_4, cSz2_4, HGz2, hgz2, HSz2_1, HSz2_4, HSQz2_1, HSQz2_4⟩ := HI0.out
 have hcz2_0 := cellS43_0 HGz2
 have hcz2_1 := cellS43_1 HGz2
 have hcz2_2 := cellS43_2 HGz2
 have hcz2_3 := cellS43_3 HGz2
 have hcz2_4 := cellS43_4 HGz2
 have hcz2_5 := cellS43_5 HGz2
 have hcz2_6 := cellS43_6 HGz2
 have hcz2_7 := cellS43_7 HGz2
 have hfz2_0 := blk_frozen HGz2 0
 have hfz2_2 := blk_frozen HGz2 2
 have hfz2_3 := blk_frozen HGz2 3
 have hfz2_5 := blk_frozen HGz2 5
 have hfz2_6 := blk_frozen HGz2 6
 have hfz2_7 := blk_frozen HGz2 7
 clear HGz2 hgz2
 go_enter Tryz.func80, Tryz.ntmps80
 go_wp2
 go_ret
 exact ⟨e2_, in43_ HI0, bi43_ HB, kn_ HK⟩
end Go.Proofs.YtnlndmoecljicaaGreat.Q
end
section
namespace Go.Proofs.YtnlndmoecljicaaGreat.Q
open Go.RowKit Go.Proofs.YtnlndmoecljicaaGreatW.PrintWords Go.Proofs.YtnlndmoecljicaaGreatW.PrintLast Go.Proofs.YtnlndmoecljicaaGreatW.PrintMore
set_option linter.unusedVariables false
set_option linter.unusedSimpArgs false
def impl_Mirror_askFor.f (a : Int) (l : List ByteArray) (b : Int) (c : ByteArray) (d : List Int) (e f : Int) (g : ByteArray) (x : Int) : Option (List S65 × Int × Int × ByteArray × Int × Int × ByteArray) :=
 (impl_Mirror_isOther.f a l b c d e f g x).bind fun t => (if t.1 = true then (if f ≤ (l.length : Int) then some ([], a, b, c, e, f, g) else some ([(⟨2, a, x, (⟨f, g⟩ : S37), (l.length : Int), ([] : List ByteArray)⟩ : S65)], a, b, c, e, f, g)) else some ([], a, b, c, e, f, g))
theorem IsS43.c067 {w0 W : World} {g : Nat} {f0 : Int} {f1 : List ByteArray} {f2 : Int} {f3 : ByteArray} {f4 : List Int} {f5 : Int} {f6 : Int} {f7 : ByteArray} (h : IsS43 w0 W g f0 f1 f2 f3 f4 f5 f6 f7) : W.cell? ⟨g, 0, none⟩ = some (.int .i64 f0) ∧ W.cell? ⟨g, 6, none⟩ = some (.int .i64 f6) ∧ W.cell? ⟨g, 7, none⟩ = some (.string f7) := by
 obtain ⟨_, _, _, _, hb, _⟩ := h
 exact ⟨cellS43_0 hb, cellS43_6 hb, cellS43_7 hb⟩
set_option maxHeartbeats 8000000 in
set_option maxRecDepth 100000 in
theorem impl_Mirror_askFor.calls (g : Nat) (s0_0 : Int) (s0_1 : List ByteArray) (s0_2 : Int) (s0_3 : ByteArray) (s0_4 : List Int) (s0_5 : Int) (s0_6 : Int) (s0_7 : ByteArray) (a1 : Int) (r1 : List S65) (r2 : Int) (r3 : Int) (r4 : ByteArray) (r5 : Int) (r6 : Int) (r7 : ByteArray) (w0 w : World) (hI : IsS43 w0 w g s0_0 s0_1 s0_2 s0_3 s0_4 s0_5 s0_6 s0_7) (hB : Below w0.heap.size w0 w) (h : impl_Mirror_askFor.f s0_0 s0_1 s0_2 s0_3 s0_4 s0_5 s0_6 s0_7 a1 = some (r1, r2, r3, r4, r5, r6, r7)) :
  Calls Tryz.prog 43 #[.pointer (some ⟨g, 0, none⟩), .int .i64 a1] w fun e w' => ∃ v0_ : Value, e = .returned (v0_) ∧ Kd.S k65 65 w' w.heap.size (fun _ => True) v0_ r1 ∧ IsS43 w0 w' g r2 s0_1 r3 r4 s0_4 r5 r6 r7 ∧ Below w0.heap.size w0 w' ∧ KeepBut w w' g none := by
 have hu65 := Tryz.underlying65
 have hu43 := Tryz.underlying43
 have hu37 := Tryz.underlying37
 have HI := Aside0.mk hI
 have HB := Aside0.mk hB
 have HK := Aside0.mk (KeepBut.refl w g none)
 unfold impl_Mirror_askFor.f at h
 obtain ⟨⟨q1, q2, q3, q4, q5, q6, q7⟩, A0, h⟩ := Option.bind_eq_some_iff.mp h
 have AO := Aside0.mk A0
 clear hI hB A0
 obtain ⟨rfl, rfl, rfl, rfl, rfl, rfl⟩ := isOther_same AO.out
 dsimp only at h
 cases q1 with
 | false =>
  rw [if_neg (by decide)] at h
  simp only [Option.some.injEq, Prod.mk.injEq] at h
  obtain ⟨rfl, rfl, rfl, rfl, rfl, rfl, rfl⟩ := h
  go_enter Tryz.func43, Tryz.ntmps43
  try go_wp2
  replace HI := Aside0.mk (HI.out.drew)
  replace HB := Aside0.mk (below_drew1 HB.out)
  replace HK := Aside0.mk (keep_drew HK.out)
  refine start_ (n := 14) (S := fun w' => w'.cell? ⟨g, 0, none⟩ = some (.int .i64 q2) ∧ w'.cell? ⟨g, 6, none⟩ = some (.int .i64 q6) ∧ w'.cell? ⟨g, 7, none⟩ = some (.string q7)) (ds := []) (lz_ 14 0) (by kernel_rfl) rfl rfl HI.out.c067 (fun hHeld => ?_)
  generalize w.drew = w3 at HI HB HK hHeld ⊢
  refine pk_ 0 5 1 ?_
  refine pk_ 1 6 3 ?_
  refine one_ (i := 2) (N := some 7) (lz_ 14 7) rfl rfl (by kernel_rfl) (by decide) (fun K hK => ?_)
  refine gf_ Tryz.func79 (impl_Mirror_isOther.calls g _ _ _ _ _ _ _ _ _ _ _ _ _ _ _ _ w0 _ HI.out HB.out AO.out) ?_
  rintro e w4 ⟨rfl, hi, hb, hk⟩
  refine ⟨_, rfl, ?_⟩
  replace HI := Aside0.mk hi
  replace HB := Aside0.mk hb
  replace HK := Aside0.mk (HK.out.trans hk (.inl rfl))
  clear hi hb hk
  refine hK.out _ _ HI.out.c067 (fun hHeld => ?_)
  clear hK K
  refine no_ 7 ?_
  refine pk_ 3 8 15 ?_
  refine pk_ 4 9 31 ?_
  refine uk_ 5 10 63 ?_
  refine uk_ 6 11 127 ?_
  refine uk_ 7 12 255 ?_
  refine uk_ 8 13 511 ?_
  refine uk_ 9 14 1023 ?_
  refine uk_ 10 15 2047 ?_
  refine uk_ 11 16 4095 ?_
  refine uk_ 12 17 8191 ?_
  refine pk_ 13 18 16383 ?_
  refine done_ (by kernel_rfl) ?_
  try go_wp2
  go_ret
  exact ⟨_, rfl, Kd.S_nil _ _ _ _ _, HI.out, HB.out, HK.out⟩
 | true =>
  rw [if_pos rfl] at h
  by_cases hle : q6 ≤ (s0_1.length : Int)
  ·rw [if_pos hle] at h
   simp only [Option.some.injEq, Prod.mk.injEq] at h
   obtain ⟨rfl, rfl, rfl, rfl, rfl, rfl, rfl⟩ := h
   have hd1 : decide (q6 ≤ (s0_1.length : Int)) = true := decide_eq_true hle
   go_enter Tryz.func43, Tryz.ntmps43
   try go_wp2
   replace HI := Aside0.mk (HI.out.drew)
   replace HB := Aside0.mk (below_drew1 HB.out)
   replace HK := Aside0.mk (keep_drew HK.out)
   refine start_ (n := 14) (S := fun w' => w'.cell? ⟨g, 0, none⟩ = some (.int .i64 q2) ∧ w'.cell? ⟨g, 6, none⟩ = some (.int .i64 q6) ∧ w'.cell? ⟨g, 7, none⟩ = some (.string q7)) (ds := []) (lz_ 14 0) (by kernel_rfl) rfl rfl HI.out.c067 (fun hHeld => ?_)
   generalize w.drew = w3 at HI HB HK hHeld ⊢
   refine pk_ 0 5 1 ?_
   refine pk_ 1 6 3 ?_
   refine one_ (i := 2) (N := some 7) (lz_ 14 7) rfl rfl (by kernel_rfl) (by decide) (fun K hK => ?_)
   refine gf_ Tryz.func79 (impl_Mirror_isOther.calls g _ _ _ _ _ _ _ _ _ _ _ _ _ _ _ _ w0 _ HI.out HB.out AO.out) ?_
   rintro e w4 ⟨rfl, hi, hb, hk⟩
   refine ⟨_, rfl, ?_⟩
   replace HI := Aside0.mk hi
   replace HB := Aside0.mk hb
   replace HK := Aside0.mk (HK.out.trans hk (.inl rfl))
   clear hi hb hk
   refine hK.out _ _ HI.out.c067 (fun hHeld => ?_)
   clear hK K
   refine no_ 7 ?_
   refine pk_ 3 8 15 ?_
   refine pk_ 4 9 31 ?_
   refine pk_ 5 10 63 ?_
   refine pk_ 6 11 127 ?_
   refine pk_ 7 12 255 ?_
   refine pk_ 8 13 511 ?_
   refine pk_ 10 15 1535 ?_
   refine tk_ 9 14 2047 ?_
   refine one_ (i := 11) (N := some 16) (lz_ 14 4095) rfl rfl (by kernel_rfl) (by decide) (fun K hK => ?_)
   refine gf_ Tryz.func80 (impl_Mirror_count.calls g _ _ _ _ _ _ _ _ _ _ _ _ _ _ _ w0 _ HI.out HB.out rfl) ?_
   rintro e w5 ⟨rfl, hi, hb, hk⟩
   refine ⟨_, rfl, ?_⟩
   replace HI := Aside0.mk hi
   replace HB := Aside0.mk hb
   replace HK := Aside0.mk (HK.out.trans hk (.inl rfl))
   clear hi hb hk
   refine hK.out _ _ HI.out.c067 (fun hHeld => ?_)
   clear hK K
   refine no_ 16 ?_
   refine pk_ 12 17 8191 ?_
   refine pk_ 13 18 16383 ?_
   refine done_ (by kernel_rfl) ?_
   try go_wp2
   go_ret
   exact ⟨_, rfl, Kd.S_nil _ _ _ _ _, HI.out, HB.out, HK.out⟩
  ·rw [if_neg hle] at h
   simp only [Option.some.injEq, Prod.mk.injEq] at h
   obtain ⟨rfl, rfl, rfl, rfl, rfl, rfl, rfl⟩ := h
   have hd1 : decide (q6 ≤ (s0_1.length : Int)) = false := decide_eq_false hle
   go_enter Tryz.func43, Tryz.ntmps43
   try go_wp2
   replace HI := Aside0.mk (HI.out.drew)
   replace HB := Aside0.mk (below_drew1 HB.out)
   replace HK := Aside0.mk (keep_drew HK.out)
   refine start_ (n := 14) (S := fun w' => w'.cell? ⟨g, 0, none⟩ = some (.int .i64 q2) ∧ w'.cell? ⟨g, 6, none⟩ = some (.int .i64 q6) ∧ w'.cell? ⟨g, 7, none⟩ = some (.string q7)) (ds := []) (lz_ 14 0) (by kernel_rfl) rfl rfl HI.out.c067 (fun hHeld => ?_)
   generalize w.drew = w3 at HI HB HK hHeld ⊢
   refine pk_ 0 5 1 ?_
   refine pk_ 1 6 3 ?_
   refine one_ (i := 2) (N := some 7) (lz_ 14 7) rfl rfl (by kernel_rfl) (by decide) (fun K hK => ?_)
   refine gf_ Tryz.func79 (impl_Mirror_isOther.calls g _ _ _ _ _ _ _ _ _ _ _ _ _ _ _ _ w0 _ HI.out HB.out AO.out) ?_
   rintro e w4 ⟨rfl, hi, hb, hk⟩
   refine ⟨_, rfl, ?_⟩
   replace HI := Aside0.mk hi
   replace HB := Aside0.mk hb
   replace HK := Aside0.mk (HK.out.trans hk (.inl rfl))
   clear hi hb hk
   refine hK.out _ _ HI.out.c067 (fun hHeld => ?_)
   clear hK K
   refine no_ 7 ?_
   refine pk_ 3 8 15 ?_
   refine pk_ 4 9 31 ?_
   refine pk_ 5 10 63 ?_
   refine pk_ 6 11 127 ?_
   refine pk_ 7 12 255 ?_
   refine pk_ 8 13 511 ?_
   refine pk_ 10 15 1535 ?_
   refine tk_ 9 14 2047 ?_
   refine one_ (i := 11) (N := some 16) (lz_ 14 4095) rfl rfl (by kernel_rfl) (by decide) (fun K hK => ?_)
   refine gf_ Tryz.func80 (impl_Mirror_count.calls g _ _ _ _ _ _ _ _ _ _ _ _ _ _ _ w0 _ HI.out HB.out rfl) ?_
   rintro e w5 ⟨rfl, hi, hb, hk⟩
   refine ⟨_, rfl, ?_⟩
   replace HI := Aside0.mk hi
   replace HB := Aside0.mk hb
   replace HK := Aside0.mk (HK.out.trans hk (.inl rfl))
   clear hi hb hk
   refine hK.out _ _ HI.out.c067 (fun hHeld => ?_)
   clear hK K
   refine no_ 16 ?_
   refine pk_ 12 17 8191 ?_
   refine pk_ 13 18 16383 ?_
   refine done_ (by kernel_rfl) ?_
   try go_wp2
   replace HI := Aside0.mk (HI.out.drew)
   replace HB := Aside0.mk (below_drew1 HB.out)
   replace HK := Aside0.mk (keep_drew HK.out)
   refine start_ (n := 14) (S := fun w' => w'.cell? ⟨g, 0, none⟩ = some (.int .i64 q2) ∧ w'.cell? ⟨g, 6, none⟩ = some (.int .i64 q6) ∧ w'.cell? ⟨g, 7, none⟩ = some (.string q7)) (ds := []) (lz_ 14 0) (by kernel_rfl) rfl rfl HI.out.c067 (fun hHeld => ?_)
   generalize w5.drew = w6 at HI HB HK hHeld ⊢
   refine pk_ 0 19 1 ?_
   refine pk_ 1 20 3 ?_
   refine pk_ 2 21 7 ?_
   refine pk_ 4 23 23 ?_
   refine pk_ 5 24 55 ?_
   refine pk_ 6 25 119 ?_
   refine pk_ 7 26 247 ?_
   refine pk_ 9 28 759 ?_
   refine tk_ 3 22 767 ?_
   refine tk_ 8 27 1023 ?_
   refine one_ (i := 10) (N := some 29) (lz_ 14 2047) rfl rfl (by kernel_rfl) (by decide) (fun K hK => ?_)
   refine gf_ Tryz.func80 (impl_Mirror_count.calls g _ _ _ _ _ _ _ _ _ _ _ _ _ _ _ w0 _ HI.out HB.out rfl) ?_
   rintro e w7 ⟨rfl, hi, hb, hk⟩
   refine ⟨_, rfl, ?_⟩
   replace HI := Aside0.mk hi
   replace HB := Aside0.mk hb
   replace HK := Aside0.mk (HK.out.trans hk (.inl rfl))
   clear hi hb hk
   refine hK.out _ _ HI.out.c067 (fun hHeld => ?_)
   clear hK K
   refine no_ 29 ?_
   refine pk_ 11 30 4095 ?_
   refine one_ (i := 12) (N := some 31) (lz_ 14 8191) rfl rfl (by kernel_rfl) (by decide) (fun K hK => ?_)
   have hsz := keep_size HK.out
   refine Kd.S_lit_step k65 w.heap.size 65 (w0 := w7) (by rfl) (N := 31) rfl (xs := [(⟨2, q2, a1, (⟨q6, q7⟩ : S37), (s0_1.length : Int), ([] : List ByteArray)⟩ : S65)]) (inner := [.int .i64 2, .int .i64 q2, .int .i64 a1, .int .i64 q6, .string q7, .int .i64 (s0_1.length : Int), .slice none 0 0]) (ok := fun _ => True) (okp := fun _ => True) (by first | (go_simp; done) | (go_simp; rfl)) (Reps.c7 (show Kd.M k65 _ _ _ (⟨2, q2, a1, (⟨q6, q7⟩ : S37), (s0_1.length : Int), ([] : List ByteArray)⟩ : S65) [.int .i64 2, .int .i64 q2, .int .i64 a1, .int .i64 q6, .string q7, .int .i64 (s0_1.length : Int), .slice none 0 0] from (k65_mkM _ _ _ (⟨2, q2, a1, (⟨q6, q7⟩ : S37), (s0_1.length : Int), ([] : List ByteArray)⟩ : S65) (Kd.R_nil _ _ _ _ _))) (Reps.none _ _)) (fun _ hk => hk) trivial (Below.refl _ _) hsz (by simp) ?_
   intro v1 w8 ho hb4 hgr hnew
   have HO := Aside0.mk ho
   replace HI := Aside0.mk (HI.out.grown hgr (by simp))
   replace HB := Aside0.mk (Below.grown HB.out hgr (below_size HB.out) (by simp))
   replace HK := Aside0.mk (HK.out.trans (KeepBut.of_grown hgr g) (.inl rfl))
   refine hK.out _ _ HI.out.c067 (fun hHeld => ?_)
   clear hK K
   refine no_ 31 ?_
   refine pk_ 13 4 16383 ?_
   refine done_ (by kernel_rfl) ?_
   try go_wp2
   go_ret
   exact ⟨_, rfl, HO.out, HI.out, HB.out, HK.out⟩
end Go.Proofs.YtnlndmoecljicaaGreat.Q
end
section
namespace Go.Proofs.YtnlndmoecljicaaGreat.Q
open Go.RowKit Go.Proofs.YtnlndmoecljicaaGreatW.PrintWords Go.Proofs.YtnlndmoecljicaaGreatW.PrintLast Go.Proofs.YtnlndmoecljicaaGreatW.PrintMore
attribute [local go_sem] max2_int min2_int max_two min_two max_three min_three max_four min_four   -- for this text's walks alone
set_option linter.unusedVariables false
set_option linter.unusedSimpArgs false
def spec_l14To.f (a0_0 : Int) (l0_1 : List ByteArray) (a0_2 : Int) (a0_3 : ByteArray) (l0_4 : List Int) (a0_5 : Int) (a0_6 : Int) (a0_7 : ByteArray) (a1 : Int) : Option (Bool) := (spec_l1In.f a1 0 20).bind fun t602 => (if t602 = true then (some (a1 != a0_0)) else (some false))
set_option maxHeartbeats 8000000 in
set_option maxRecDepth 100000 in
theorem spec_l14To.calls (a0_0 : Int) (A0_1 : Option Addr) (c0_1 : Nat) (l0_1 : List ByteArray) (a0_2 : Int) (a0_3 : ByteArray) (A0_4 : Option Addr) (c0_4 : Nat) (l0_4 : List Int) (a0_5 : Int) (a0_6 : Int) (a0_7 : ByteArray) (a1 : Int) (r : Bool) (w : World) (hr0_1 : Kd.C Kd.string w A0_1 l0_1.length l0_1) (hc0_1 : l0_1.length ≤ c0_1) (hr0_4 : Kd.C (Kd.int .u8) w A0_4 l0_4.length l0_4) (hc0_4 : l0_4.length ≤ c0_4) (h : spec_l14To.f a0_0 l0_1 a0_2 a0_3 l0_4 a0_5 a0_6 a0_7 a1 = some r) :
  Calls Tryz.prog 76 #[.agg #[.int .i64 a0_0, .slice A0_1 l0_1.length c0_1, .int .i64 a0_2, .string a0_3, .slice A0_4 l0_4.length c0_4, .int .i64 a0_5, .int .i64 a0_6, .string a0_7], .int .i64 a1] w fun e w' => e = .returned (.bool r) ∧ Below w.heap.size w w' := by
 have hu43 := Tryz.underlying43
 have HR0_1 := Aside0.mk hr0_1
 have HC0_1 := Aside0.mk hc0_1
 clear hr0_1 hc0_1
 have HR0_4 := Aside0.mk hr0_4
 have HC0_4 := Aside0.mk hc0_4
 clear hr0_4 hc0_4
 have HB := Aside0.mk (Below.refl w.heap.size w)
 have H : ((spec_l1In.f a1 0 20).bind fun t602 => (if t602 = true then (some (a1 != a0_0)) else (some false))) = some r := h
 clear h
 replace H := bi_ H; obtain ⟨t602, A3, H⟩ := H
 replace H := itb_ H; obtain ⟨rfl, H⟩ | ⟨rfl, H⟩ := H
 ·obtain rfl := Option.some.inj H
  go_enter Tryz.func76, Tryz.ntmps76
  go_wp2_with (first | ((with_reducible refine gd_ 2 ?_); refine bx_ 2 43 #[.int .i64 a0_0, .slice A0_1 l0_1.length c0_1, .int .i64 a0_2, .string a0_3, .slice A0_4 l0_4.length c0_4, .int .i64 a0_5, .int .i64 a0_6, .string a0_7] ?_; intro gb601 hg w5 hbox hb; have BK601 := Aside0.mk hbox; have GW601 := gg_ hg HB; have GE601 := GW601; replace HB := ss_ HB hb; clear hb hbox hg) | ((with_reducible refine gq_ 72 6 ?_); refine gc_ 6 Tryz.func72 (spec_l1In.calls a1 0 20 true _ A3.out) ?_; rintro e w' ⟨rfl, ⟨nd, rfl⟩⟩; refine ⟨_, rfl, ?_⟩; have hcz6 := cz8_ BK601))
  go_ret
  exact ⟨e2_, bw_ HB⟩
 ·obtain rfl := Option.some.inj H
  go_enter Tryz.func76, Tryz.ntmps76
  go_wp2_with (first | ((with_reducible refine gd_ 2 ?_); refine bx_ 2 43 #[.int .i64 a0_0, .slice A0_1 l0_1.length c0_1, .int .i64 a0_2, .string a0_3, .slice A0_4 l0_4.length c0_4, .int .i64 a0_5, .int .i64 a0_6, .string a0_7] ?_; intro gb601 hg w7 hbox hb; have BK601 := Aside0.mk hbox; have GW601 := gg_ hg HB; have GE601 := GW601; replace HB := ss_ HB hb; clear hb hbox hg) | ((with_reducible refine gq_ 72 6 ?_); refine gc_ 6 Tryz.func72 (spec_l1In.calls a1 0 20 false _ A3.out) ?_; rintro e w' ⟨rfl, ⟨nd, rfl⟩⟩; refine ⟨_, rfl, ?_⟩))
  go_ret
  exact ⟨e2_, bw_ HB⟩
def spec_l14Gossip.f (a0_0 : Int) (l0_1 : List ByteArray) (a0_2 : Int) (a0_3 : ByteArray) (l0_4 : List Int) (a0_5 : Int) (a0_6 : Int) (a0_7 : ByteArray) (a1 : Int) : Option ((List (S65))) := (spec_l14To.f a0_0 l0_1 a0_2 a0_3 l0_4 a0_5 a0_6 a0_7 a1).bind fun t602 => (if t602 = true then (some (([(⟨1, a0_0, a1, (⟨a0_6, a0_7⟩ : S37), 0, ([] : List ByteArray)⟩ : S65)] : List (S65)))) else (some (([] : List (S65)))))
def spec_Gossip.f (k : Nat) (a0_0 : Int) (l0_1 : List ByteArray) (a0_2 : Int) (a0_3 : ByteArray) (l0_4 : List Int) (a0_5 : Int) (a0_6 : Int) (a0_7 : ByteArray) (l1 : List (S37)) (a2 : Int) : Option ((List (S65))) := (spec_MirrorOk.f k a0_0 l0_1 a0_2 a0_3 l0_4 a0_5 a0_6 a0_7 l1).bind fun t602 => (if t602 = true then ((spec_l14Gossip.f a0_0 l0_1 a0_2 a0_3 l0_4 a0_5 a0_6 a0_7 a2).bind fun t603 => (some t603)) else (some (([] : List (S65)))))
def spec_l14Ask.f (a0_0 : Int) (l0_1 : List ByteArray) (a0_2 : Int) (a0_3 : ByteArray) (l0_4 : List Int) (a0_5 : Int) (a0_6 : Int) (a0_7 : ByteArray) (a1 : Int) : Option ((List (S65))) := (spec_l14To.f a0_0 l0_1 a0_2 a0_3 l0_4 a0_5 a0_6 a0_7 a1).bind fun t602 => (if t602 = true then (if a0_6 ≤ (l0_1.length : Int) then (some (([] : List (S65)))) else (some (([(⟨2, a0_0, a1, (⟨a0_6, a0_7⟩ : S37), (l0_1.length : Int), ([] : List ByteArray)⟩ : S65)] : List (S65))))) else (some (([] : List (S65)))))
set_option maxHeartbeats 8000000 in
set_option maxRecDepth 100000 in
theorem spec_l14Ask.calls (a0_0 : Int) (A0_1 : Option Addr) (c0_1 : Nat) (l0_1 : List ByteArray) (a0_2 : Int) (a0_3 : ByteArray) (A0_4 : Option Addr) (c0_4 : Nat) (l0_4 : List Int) (a0_5 : Int) (a0_6 : Int) (a0_7 : ByteArray) (a1 : Int) (r : List (S65)) (w : World) (hr0_1 : Kd.C Kd.string w A0_1 l0_1.length l0_1) (hc0_1 : l0_1.length ≤ c0_1) (hr0_4 : Kd.C (Kd.int .u8) w A0_4 l0_4.length l0_4) (hc0_4 : l0_4.length ≤ c0_4) (h : spec_l14Ask.f a0_0 l0_1 a0_2 a0_3 l0_4 a0_5 a0_6 a0_7 a1 = some r) :
  Calls Tryz.prog 40 #[.agg #[.int .i64 a0_0, .slice A0_1 l0_1.length c0_1, .int .i64 a0_2, .string a0_3, .slice A0_4 l0_4.length c0_4, .int .i64 a0_5, .int .i64 a0_6, .string a0_7], .int .i64 a1] w fun e w' => ∃ v0_ : Value, e = .returned (v0_) ∧ Kd.S k65 65 w' w.heap.size (fun _ => True) v0_ r ∧ Below w.heap.size w w' := by
 have hu43 := Tryz.underlying43
 have hu37 := Tryz.underlying37
 have hu65 := Tryz.underlying65
 have HR0_1 := Aside0.mk hr0_1
 have HC0_1 := Aside0.mk hc0_1
 clear hr0_1 hc0_1
 have HR0_4 := Aside0.mk hr0_4
 have HC0_4 := Aside0.mk hc0_4
 clear hr0_4 hc0_4
 have HB := Aside0.mk (Below.refl w.heap.size w)
 have H : ((spec_l14To.f a0_0 l0_1 a0_2 a0_3 l0_4 a0_5 a0_6 a0_7 a1).bind fun t602 => (if t602 = true then (if a0_6 ≤ (l0_1.length : Int) then (some (([] : List (S65)))) else (some (([(⟨2, a0_0, a1, (⟨a0_6, a0_7⟩ : S37), (l0_1.length : Int), ([] : List ByteArray)⟩ : S65)] : List (S65))))) else (some (([] : List (S65)))))) = some r := h
 clear h
 replace H := bi_ H; obtain ⟨t602, A3, H⟩ := H
 replace H := itb_ H; obtain ⟨rfl, H⟩ | ⟨rfl, H⟩ := H
 ·replace H := itd_ H; obtain ⟨c5b0, H⟩ | ⟨c5b0, H⟩ := H
  ·obtain ⟨y603, hy603⟩ : ∃ y_ : List (S65), y_ = (([] : List (S65))) := ⟨_, rfl⟩
   replace H : (some y603) = some r := yh_ hy603 H
   have Ny603 := Aside0.mk hy603
   clear hy603
   obtain rfl := Option.some.inj H
   go_enter Tryz.func40, Tryz.ntmps40
   go_wp2_with (first | ((with_reducible refine gd_ 2 ?_); (try (refine gate_guard (by rfl) ?_; dsimp only)); refine bx_ 2 43 #[.int .i64 a0_0, .slice A0_1 l0_1.length c0_1, .int .i64 a0_2, .string a0_3, .slice A0_4 l0_4.length c0_4, .int .i64 a0_5, .int .i64 a0_6, .string a0_7] ?_; intro gb601 hg w6 hbox hb; have BK601 := Aside0.mk hbox; have GW601 := gg_ hg HB; have GE601 := GW601; replace HB := ss_ HB hb; clear hb hbox hg; have hcz7 := cz8_ BK601) | ((with_reducible refine gq_ 76 7 ?_); refine gc_ 7 Tryz.func76 (spec_l14To.calls a0_0 _ _ l0_1 a0_2 a0_3 _ _ l0_4 a0_5 a0_6 a0_7 a1 true _ (cb_ HR0_1 HB) HC0_1.out (cb_ HR0_4 HB) HC0_4.out A3.out) ?_; rintro e w8 ⟨rfl, hb⟩; refine ⟨_, rfl, ?_⟩; replace BK601 := kl_ BK601 hb; replace HB := ss_ HB hb; clear hb; have hcz9 := cz8_ BK601) | ((with_reducible refine gd_ 20 ?_); (try (refine gate_guard (by rfl) ?_; dsimp only)); refine Kd.S_lit k65 _ 65 ?hg (N := 20) ?hd (xs := ([] : List (S65))) (inner := []) (ok := fun _ => True) (okp := fun _ => True) ?hr ?hp (fun _ hk => hk) trivial (Below.refl _ _) (Nat.le_refl _) (by simp) ?_; (case hd => rfl); (case hg => rfl); (case hr => first | (go_simp; done) | (go_simp; rfl)); (case hp => exact (Reps.none _ _)); intro v604 w10 ho11 hb hg_ hnew_; clear hg_ hnew_; (first | rw [← Ny603.out] at ho11 | (simp only [Int.reduceToNat] at ho11; rw [← Ny603.out] at ho11)); have HO605 := Aside0.mk (Kd.S_lower ho11 (sz_ HB)); replace BK601 := kl_ BK601 hb; replace HB := ss_ HB hb; clear hb ho11))
   go_ret
   exact ⟨_, e2_, by (with_reducible repeat (first | apply Kd.S_alloc | apply Kd.S_drewN | apply Kd.S_drew)); exact HO605.out, bw_ HB⟩
  ·obtain ⟨y606, hy606⟩ : ∃ y_ : List (S65), y_ = (([(⟨2, a0_0, a1, (⟨a0_6, a0_7⟩ : S37), (l0_1.length : Int), ([] : List ByteArray)⟩ : S65)] : List (S65))) := ⟨_, rfl⟩
   replace H : (some y606) = some r := yh_ hy606 H
   have Ny606 := Aside0.mk hy606
   clear hy606
   obtain rfl := Option.some.inj H
   go_enter Tryz.func40, Tryz.ntmps40
   go_wp2_with (first | ((with_reducible refine gd_ 2 ?_); (try (refine gate_guard (by rfl) ?_; dsimp only)); refine bx_ 2 43 #[.int .i64 a0_0, .slice A0_1 l0_1.length c0_1, .int .i64 a0_2, .string a0_3, .slice A0_4 l0_4.length c0_4, .int .i64 a0_5, .int .i64 a0_6, .string a0_7] ?_; intro gb601 hg w12 hbox hb; have BK601 := Aside0.mk hbox; have GW601 := gg_ hg HB; have GE601 := GW601; replace HB := ss_ HB hb; clear hb hbox hg; have hcz13 := cz8_ BK601) | ((with_reducible refine gq_ 76 7 ?_); refine gc_ 7 Tryz.func76 (spec_l14To.calls a0_0 _ _ l0_1 a0_2 a0_3 _ _ l0_4 a0_5 a0_6 a0_7 a1 true _ (cb_ HR0_1 HB) HC0_1.out (cb_ HR0_4 HB) HC0_4.out A3.out) ?_; rintro e w14 ⟨rfl, hb⟩; refine ⟨_, rfl, ?_⟩; replace BK601 := kl_ BK601 hb; replace HB := ss_ HB hb; clear hb; have hcz15 := cz8_ BK601) | ((with_reducible refine gd_ 32 ?_); (try (refine gate_guard (by rfl) ?_; dsimp only)); refine Kd.S_lit k65 _ 65 ?hg (N := 32) ?hd (xs := ([(⟨2, a0_0, a1, (⟨a0_6, a0_7⟩ : S37), (l0_1.length : Int), ([] : List ByteArray)⟩ : S65)] : List (S65))) (inner := [.int .i64 2, .int .i64 a0_0, .int .i64 a1, .int .i64 a0_6, .string a0_7, .int .i64 (l0_1.length : Int), .slice none 0 0]) (ok := fun _ => True) (okp := fun _ => True) ?hr ?hp (fun _ hk => hk) trivial (Below.refl _ _) (Nat.le_refl _) (by simp) ?_; (case hd => rfl); (case hg => rfl); (case hr => first | (go_simp; done) | (go_simp; rfl)); (case hp => exact (Reps.c7 (show Kd.M k65 _ _ _ (⟨2, a0_0, a1, (⟨a0_6, a0_7⟩ : S37), (l0_1.length : Int), ([] : List ByteArray)⟩ : S65) [.int .i64 2, .int .i64 a0_0, .int .i64 a1, .int .i64 a0_6, .string a0_7, .int .i64 (l0_1.length : Int), .slice none 0 0] from (k65_mkM _ _ _ (⟨2, a0_0, a1, (⟨a0_6, a0_7⟩ : S37), (l0_1.length : Int), ([] : List ByteArray)⟩ : S65) (Kd.R_nil _ _ _ _ _))) (Reps.none _ _))); intro v607 w16 ho17 hb hg_ hnew_; clear hg_ hnew_; (first | rw [← Ny606.out] at ho17 | (simp only [Int.reduceToNat] at ho17; rw [← Ny606.out] at ho17)); have HO608 := Aside0.mk (Kd.S_lower ho17 (sz_ HB)); replace BK601 := kl_ BK601 hb; replace HB := ss_ HB hb; clear hb ho17))
   go_ret
   exact ⟨_, e2_, by (with_reducible repeat (first | apply Kd.S_alloc | apply Kd.S_drewN | apply Kd.S_drew)); exact HO608.out, bw_ HB⟩
 ·obtain ⟨y609, hy609⟩ : ∃ y_ : List (S65), y_ = (([] : List (S65))) := ⟨_, rfl⟩
  replace H : (some y609) = some r := yh_ hy609 H
  have Ny609 := Aside0.mk hy609
  clear hy609
  obtain rfl := Option.some.inj H
  go_enter Tryz.func40, Tryz.ntmps40
  go_wp2_with (first | ((with_reducible refine gd_ 2 ?_); (try (refine gate_guard (by rfl) ?_; dsimp only)); refine bx_ 2 43 #[.int .i64 a0_0, .slice A0_1 l0_1.length c0_1, .int .i64 a0_2, .string a0_3, .slice A0_4 l0_4.length c0_4, .int .i64 a0_5, .int .i64 a0_6, .string a0_7] ?_; intro gb601 hg w18 hbox hb; have BK601 := Aside0.mk hbox; have GW601 := gg_ hg HB; have GE601 := GW601; replace HB := ss_ HB hb; clear hb hbox hg; have hcz19 := cz8_ BK601) | ((with_reducible refine gq_ 76 7 ?_); refine gc_ 7 Tryz.func76 (spec_l14To.calls a0_0 _ _ l0_1 a0_2 a0_3 _ _ l0_4 a0_5 a0_6 a0_7 a1 false _ (cb_ HR0_1 HB) HC0_1.out (cb_ HR0_4 HB) HC0_4.out A3.out) ?_; rintro e w20 ⟨rfl, hb⟩; refine ⟨_, rfl, ?_⟩; replace BK601 := kl_ BK601 hb; replace HB := ss_ HB hb; clear hb) | ((with_reducible refine gd_ 20 ?_); (try (refine gate_guard (by rfl) ?_; dsimp only)); refine Kd.S_lit k65 _ 65 ?hg (N := 20) ?hd (xs := ([] : List (S65))) (inner := []) (ok := fun _ => True) (okp := fun _ => True) ?hr ?hp (fun _ hk => hk) trivial (Below.refl _ _) (Nat.le_refl _) (by simp) ?_; (case hd => rfl); (case hg => rfl); (case hr => first | (go_simp; done) | (go_simp; rfl)); (case hp => exact (Reps.none _ _)); intro v610 w21 ho22 hb hg_ hnew_; clear hg_ hnew_; (first | rw [← Ny609.out] at ho22 | (simp only [Int.reduceToNat] at ho22; rw [← Ny609.out] at ho22)); have HO611 := Aside0.mk (Kd.S_lower ho22 (sz_ HB)); replace BK601 := kl_ BK601 hb; replace HB := ss_ HB hb; clear hb ho22))
  go_ret
  exact ⟨_, e2_, by (with_reducible repeat (first | apply Kd.S_alloc | apply Kd.S_drewN | apply Kd.S_drew)); exact HO611.out, bw_ HB⟩
def spec_AskFor.f (k : Nat) (a0_0 : Int) (l0_1 : List ByteArray) (a0_2 : Int) (a0_3 : ByteArray) (l0_4 : List Int) (a0_5 : Int) (a0_6 : Int) (a0_7 : ByteArray) (l1 : List (S37)) (a2 : Int) : Option ((List (S65))) := (spec_MirrorOk.f k a0_0 l0_1 a0_2 a0_3 l0_4 a0_5 a0_6 a0_7 l1).bind fun t602 => (if t602 = true then ((spec_l14Ask.f a0_0 l0_1 a0_2 a0_3 l0_4 a0_5 a0_6 a0_7 a2).bind fun t603 => (some t603)) else (some (([] : List (S65)))))
set_option maxHeartbeats 8000000 in
set_option maxRecDepth 100000 in
theorem spec_AskFor.calls (k : Nat) (a0_0 : Int) (A0_1 : Option Addr) (c0_1 : Nat) (l0_1 : List ByteArray) (a0_2 : Int) (a0_3 : ByteArray) (A0_4 : Option Addr) (c0_4 : Nat) (l0_4 : List Int) (a0_5 : Int) (a0_6 : Int) (a0_7 : ByteArray) (A1 : Option Addr) (c1 : Nat) (l1 : List (S37)) (a2 : Int) (r : List (S65)) (w : World) (hr0_1 : Kd.C Kd.string w A0_1 l0_1.length l0_1) (hc0_1 : l0_1.length ≤ c0_1) (hr0_4 : Kd.C (Kd.int .u8) w A0_4 l0_4.length l0_4) (hc0_4 : l0_4.length ≤ c0_4) (hr1 : Kd.C k37 w A1 l1.length l1) (hc1 : l1.length ≤ c1) (h : spec_AskFor.f k a0_0 l0_1 a0_2 a0_3 l0_4 a0_5 a0_6 a0_7 l1 a2 = some r) :
  Calls Tryz.prog 11 #[.agg #[.int .i64 a0_0, .slice A0_1 l0_1.length c0_1, .int .i64 a0_2, .string a0_3, .slice A0_4 l0_4.length c0_4, .int .i64 a0_5, .int .i64 a0_6, .string a0_7], .slice A1 l1.length c1, .int .i64 a2] w fun e w' => ∃ v0_ : Value, e = .returned (v0_) ∧ Kd.S k65 65 w' w.heap.size (fun _ => True) v0_ r ∧ Below w.heap.size w w' := by
 have hu43 := Tryz.underlying43
 have HR0_1 := Aside0.mk hr0_1
 have HC0_1 := Aside0.mk hc0_1
 clear hr0_1 hc0_1
 have HR0_4 := Aside0.mk hr0_4
 have HC0_4 := Aside0.mk hc0_4
 clear hr0_4 hc0_4
 have HR1 := Aside0.mk hr1
 have HC1 := Aside0.mk hc1
 clear hr1 hc1
 have HB := Aside0.mk (Below.refl w.heap.size w)
 have H : ((spec_MirrorOk.f k a0_0 l0_1 a0_2 a0_3 l0_4 a0_5 a0_6 a0_7 l1).bind fun t602 => (if t602 = true then ((spec_l14Ask.f a0_0 l0_1 a0_2 a0_3 l0_4 a0_5 a0_6 a0_7 a2).bind fun t603 => (some t603)) else (some (([] : List (S65)))))) = some r := h
 clear h
 replace H := bi_ H; obtain ⟨t602, A4, H⟩ := H
 replace H := itb_ H; obtain ⟨rfl, H⟩ | ⟨rfl, H⟩ := H
 ·replace H := bi_ H; obtain ⟨t603, A6, H⟩ := H
  obtain rfl := Option.some.inj H
  go_enter Tryz.func11, Tryz.ntmps11
  go_wp2_with (first | ((with_reducible refine gd_ 3 ?_); refine bx_ 3 43 #[.int .i64 a0_0, .slice A0_1 l0_1.length c0_1, .int .i64 a0_2, .string a0_3, .slice A0_4 l0_4.length c0_4, .int .i64 a0_5, .int .i64 a0_6, .string a0_7] ?_; intro gb601 hg w7 hbox hb; have BK601 := Aside0.mk hbox; have GW601 := gg_ hg HB; have GE601 := GW601; replace HB := ss_ HB hb; clear hb hbox hg; have hcz8 := cz8_ BK601) | ((with_reducible refine gq_ 39 9 ?_); refine gc_ 9 Tryz.func39 (spec_MirrorOk.calls k a0_0 _ _ l0_1 a0_2 a0_3 _ _ l0_4 a0_5 a0_6 a0_7 _ _ l1 true _ (cb_ HR0_1 HB) HC0_1.out (cb_ HR0_4 HB) HC0_4.out (cb_ HR1 HB) HC1.out A4.out) ?_; rintro e w9 ⟨rfl, hb⟩; refine ⟨_, rfl, ?_⟩; replace BK601 := kl_ BK601 hb; replace HB := ss_ HB hb; clear hb; have hcz10 := cz8_ BK601) | ((with_reducible refine gq_ 40 14 ?_); refine gc_ 14 Tryz.func40 (spec_l14Ask.calls a0_0 _ _ l0_1 a0_2 a0_3 _ _ l0_4 a0_5 a0_6 a0_7 a2 t603 _ (cb_ HR0_1 HB) HC0_1.out (cb_ HR0_4 HB) HC0_4.out A6.out) ?_; rintro e w11 ⟨v604, rfl, ho0, hb⟩; refine ⟨_, rfl, ?_⟩; have HO605 := Aside0.mk (Kd.S_lower ho0 (sz_ HB)); replace BK601 := kl_ BK601 hb; replace HB := ss_ HB hb; clear hb ho0))
  go_ret
  exact ⟨_, e2_, by (with_reducible repeat (first | apply Kd.S_alloc | apply Kd.S_drewN | apply Kd.S_drew)); exact HO605.out, bw_ HB⟩
 ·obtain ⟨y606, hy606⟩ : ∃ y_ : List (S65), y_ = (([] : List (S65))) := ⟨_, rfl⟩
  replace H : (some y606) = some r := yh_ hy606 H
  have Ny606 := Aside0.mk hy606
  clear hy606
  obtain rfl := Option.some.inj H
  go_enter Tryz.func11, Tryz.ntmps11
  go_wp2_with (first | ((with_reducible refine gd_ 3 ?_); refine bx_ 3 43 #[.int .i64 a0_0, .slice A0_1 l0_1.length c0_1, .int .i64 a0_2, .string a0_3, .slice A0_4 l0_4.length c0_4, .int .i64 a0_5, .int .i64 a0_6, .string a0_7] ?_; intro gb601 hg w12 hbox hb; have BK601 := Aside0.mk hbox; have GW601 := gg_ hg HB; have GE601 := GW601; replace HB := ss_ HB hb; clear hb hbox hg; have hcz13 := cz8_ BK601) | ((with_reducible refine gq_ 39 9 ?_); refine gc_ 9 Tryz.func39 (spec_MirrorOk.calls k a0_0 _ _ l0_1 a0_2 a0_3 _ _ l0_4 a0_5 a0_6 a0_7 _ _ l1 false _ (cb_ HR0_1 HB) HC0_1.out (cb_ HR0_4 HB) HC0_4.out (cb_ HR1 HB) HC1.out A4.out) ?_; rintro e w14 ⟨rfl, hb⟩; refine ⟨_, rfl, ?_⟩; replace BK601 := kl_ BK601 hb; replace HB := ss_ HB hb; clear hb) | ((with_reducible refine gd_ 11 ?_); refine Kd.S_lit k65 _ 65 ?hg (N := 11) ?hd (xs := ([] : List (S65))) (inner := []) (ok := fun _ => True) (okp := fun _ => True) ?hr ?hp (fun _ hk => hk) trivial (Below.refl _ _) (Nat.le_refl _) (by simp) ?_; (case hd => rfl); (case hg => rfl); (case hr => first | (go_simp; done) | (go_simp; rfl)); (case hp => exact (Reps.none _ _)); intro v607 w15 ho16 hb hg_ hnew_; clear hg_ hnew_; (first | rw [← Ny606.out] at ho16 | (simp only [Int.reduceToNat] at ho16; rw [← Ny606.out] at ho16)); have HO608 := Aside0.mk (Kd.S_lower ho16 (sz_ HB)); replace BK601 := kl_ BK601 hb; replace HB := ss_ HB hb; clear hb ho16))
  go_ret
  exact ⟨_, e2_, by (with_reducible repeat (first | apply Kd.S_alloc | apply Kd.S_drewN | apply Kd.S_drew)); exact HO608.out, bw_ HB⟩
def impl_Gossip.f (k : Nat) (a0_0 : Int) (l0_1 : List ByteArray) (a0_2 : Int) (a0_3 : ByteArray) (l0_4 : List Int) (a0_5 : Int) (a0_6 : Int) (a0_7 : ByteArray) (l1 : List (S37)) (a2 : Int) : Option ((List (S65))) := (impl_MirrorOk.f k a0_0 l0_1 a0_2 a0_3 l0_4 a0_5 a0_6 a0_7 l1).bind fun t602 => (if t602 = true then ((impl_Mirror_gossip.f a0_0 l0_1 a0_2 a0_3 l0_4 a0_5 a0_6 a0_7 a2).bind fun bt603 => (some bt603.1)) else (some ([] : List (S65))))
def impl_AskFor.f (k : Nat) (a0_0 : Int) (l0_1 : List ByteArray) (a0_2 : Int) (a0_3 : ByteArray) (l0_4 : List Int) (a0_5 : Int) (a0_6 : Int) (a0_7 : ByteArray) (l1 : List (S37)) (a2 : Int) : Option ((List (S65))) := (impl_MirrorOk.f k a0_0 l0_1 a0_2 a0_3 l0_4 a0_5 a0_6 a0_7 l1).bind fun t602 => (if t602 = true then ((impl_Mirror_askFor.f a0_0 l0_1 a0_2 a0_3 l0_4 a0_5 a0_6 a0_7 a2).bind fun bt603 => (some bt603.1)) else (some ([] : List (S65))))
set_option maxHeartbeats 8000000 in
set_option maxRecDepth 100000 in
theorem impl_AskFor.calls (k : Nat) (a0_0 : Int) (A0_1 : Option Addr) (c0_1 : Nat) (l0_1 : List ByteArray) (a0_2 : Int) (a0_3 : ByteArray) (A0_4 : Option Addr) (c0_4 : Nat) (l0_4 : List Int) (a0_5 : Int) (a0_6 : Int) (a0_7 : ByteArray) (A1 : Option Addr) (c1 : Nat) (l1 : List (S37)) (a2 : Int) (r : List (S65)) (w : World) (hr0_1 : Kd.C Kd.string w A0_1 l0_1.length l0_1) (hc0_1 : l0_1.length ≤ c0_1) (hr0_4 : Kd.C (Kd.int .u8) w A0_4 l0_4.length l0_4) (hc0_4 : l0_4.length ≤ c0_4) (hr1 : Kd.C k37 w A1 l1.length l1) (hc1 : l1.length ≤ c1) (h : impl_AskFor.f k a0_0 l0_1 a0_2 a0_3 l0_4 a0_5 a0_6 a0_7 l1 a2 = some r) :
  Calls Tryz.prog 14 #[.agg #[.int .i64 a0_0, .slice A0_1 l0_1.length c0_1, .int .i64 a0_2, .string a0_3, .slice A0_4 l0_4.length c0_4, .int .i64 a0_5, .int .i64 a0_6, .string a0_7], .slice A1 l1.length c1, .int .i64 a2] w fun e w' => ∃ v0_ : Value, e = .returned (v0_) ∧ Kd.S k65 65 w' w.heap.size (fun _ => True) v0_ r ∧ Below w.heap.size w w' := by
 have hu43 := Tryz.underlying43
 have HR0_1 := Aside0.mk hr0_1
 have HC0_1 := Aside0.mk hc0_1
 clear hr0_1 hc0_1
 have HR0_4 := Aside0.mk hr0_4
 have HC0_4 := Aside0.mk hc0_4
 clear hr0_4 hc0_4
 have HR1 := Aside0.mk hr1
 have HC1 := Aside0.mk hc1
 clear hr1 hc1
 have HB := Aside0.mk (Below.refl w.heap.size w)
 have H : ((impl_MirrorOk.f k a0_0 l0_1 a0_2 a0_3 l0_4 a0_5 a0_6 a0_7 l1).bind fun t602 => (if t602 = true then ((impl_Mirror_askFor.f a0_0 l0_1 a0_2 a0_3 l0_4 a0_5 a0_6 a0_7 a2).bind fun bt603 => (some bt603.1)) else (some ([] : List (S65))))) = some r := h
 clear h
 replace H := bi_ H; obtain ⟨t602, A4, H⟩ := H
 replace H := itb_ H; obtain ⟨rfl, H⟩ | ⟨rfl, H⟩ := H
 ·replace H := bi_ H; obtain ⟨⟨t603, t606, t607, t608, t609, t610, t611⟩, A6, H⟩ := H
  dsimp only at H
  obtain rfl := Option.some.inj H
  go_enter Tryz.func14, Tryz.ntmps14
  go_wp2_with (first | ((with_reducible refine gd_ 3 ?_); refine bx_ 3 43 #[.int .i64 a0_0, .slice A0_1 l0_1.length c0_1, .int .i64 a0_2, .string a0_3, .slice A0_4 l0_4.length c0_4, .int .i64 a0_5, .int .i64 a0_6, .string a0_7] ?_; intro gb601 hg w7 hbox hb; have BK601 := Aside0.mk hbox; have GW601 := gg_ hg HB; have GE601 := GW601; replace HB := ss_ HB hb; clear hb hbox hg; have hcz8 := cz8_ BK601) | ((with_reducible refine gq_ 27 9 ?_); refine gc_ 9 Tryz.func27 (impl_MirrorOk.calls k a0_0 _ _ l0_1 a0_2 a0_3 _ _ l0_4 a0_5 a0_6 a0_7 _ _ l1 true _ (cb_ HR0_1 HB) HC0_1.out (cb_ HR0_4 HB) HC0_4.out (cb_ HR1 HB) HC1.out A4.out) ?_; rintro e w9 ⟨rfl, hb⟩; refine ⟨_, rfl, ?_⟩; replace BK601 := kl_ BK601 hb; replace HB := ss_ HB hb; clear hb) | ((with_reducible refine gk_ 43 ?_); refine gl_ 12 Tryz.func43 #[.pointer (some ⟨gb601, 0, none⟩), .int .i64 a2] ?_; refine IsS43.called (w0 := w) (g := gb601) (f0 := a0_0) (f1 := l0_1) (f2 := a0_2) (f3 := a0_3) (f4 := l0_4) (f5 := a0_5) (f6 := a0_6) (f7 := a0_7) ⟨_, _, _, _, kb_ BK601.out, GW601.out, HR0_1.out, HR0_4.out, HC0_1.out, HC0_4.out⟩ (fun HI601 => ?_); (with_reducible refine (impl_Mirror_askFor.calls gb601 a0_0 l0_1 a0_2 a0_3 l0_4 a0_5 a0_6 a0_7 a2 t603 t606 t607 t608 t609 t610 t611 w _ ?side1 ?side2 A6.out).mono ?_); (case side1 => exact in43_ HI601); (case side2 => exact bi43_ HB); rintro e w10 ⟨v604, rfl, ho0, hi, hb, hk⟩; refine ⟨_, rfl, ?_⟩; have HO605 := Aside0.mk (Kd.S_lower ho0 (below_size (bs1_ HB (IsS43.ge HI601.out)))); replace HB := Aside0.mk hb; replace HI601 := Aside0.mk hi; clear hb hk hi ho0))
  go_ret
  exact ⟨_, e2_, by (with_reducible repeat (first | apply Kd.S_alloc | apply Kd.S_drewN | apply Kd.S_drew)); exact HO605.out, bi43_ HB⟩
 ·obtain rfl := Option.some.inj H
  go_enter Tryz.func14, Tryz.ntmps14
  go_wp2_with (first | ((with_reducible refine gd_ 3 ?_); refine bx_ 3 43 #[.int .i64 a0_0, .slice A0_1 l0_1.length c0_1, .int .i64 a0_2, .string a0_3, .slice A0_4 l0_4.length c0_4, .int .i64 a0_5, .int .i64 a0_6, .string a0_7] ?_; intro gb601 hg w11 hbox hb; have BK601 := Aside0.mk hbox; have GW601 := gg_ hg HB; have GE601 := GW601; replace HB := ss_ HB hb; clear hb hbox hg; have hcz12 := cz8_ BK601) | ((with_reducible refine gq_ 27 9 ?_); refine gc_ 9 Tryz.func27 (impl_MirrorOk.calls k a0_0 _ _ l0_1 a0_2 a0_3 _ _ l0_4 a0_5 a0_6 a0_7 _ _ l1 false _ (cb_ HR0_1 HB) HC0_1.out (cb_ HR0_4 HB) HC0_4.out (cb_ HR1 HB) HC1.out A4.out) ?_; rintro e w13 ⟨rfl, hb⟩; refine ⟨_, rfl, ?_⟩; replace BK601 := kl_ BK601 hb; replace HB := ss_ HB hb; clear hb))
  go_ret
  exact ⟨_, e2_, by first | exact Kd.S_nil _ _ _ _ _ | exact Kd.N_nil _ _ _ _ _ | exact Kd.V_nil _ _ _ _ _ | exact Kd.Q_nil _ _ _ _ _ | exact Kd.R_nil _ _ _ _ _, bw_ HB⟩
end Go.Proofs.YtnlndmoecljicaaGreat.Q
end
section
/- What a mirror says of itself, and what it asks for: the program and the reference are one. Plain. -/
namespace Go.Proofs.YtnlndmoecljicaaGreat.Q
open Go.RowKit Go.Proofs.YtnlndmoecljicaaGreat.B Go.Proofs.YtnlndmoecljicaaGreatW.PrintWords
set_option linter.unusedVariables false
set_option linter.unusedSimpArgs false
abbrev IMsg := S65
def otherOf (i to_ : Int) : Bool := decide (0 ≤ to_ ∧ to_ ≤ 20) && (to_ != i)
theorem isOther_eq (i : Int) (l : List ByteArray) (n : Int) (s : ByteArray) (b : List Int) (u c : Int) (z : ByteArray) (to_ : Int) : impl_Mirror_isOther.f i l n s b u c z to_ = some (otherOf i to_, i, n, s, u, c, z) := by
 unfold impl_Mirror_isOther.f otherOf
 rw [isId_eq]
 simp only [Option.bind_some]
 by_cases h : decide (0 ≤ to_ ∧ to_ ≤ 20) = true
 ·rw [if_pos h, h]
  rfl
 ·rw [if_neg h, Bool.eq_false_iff.mpr h]
  rfl
theorem spec_To_eq (i : Int) (l : List ByteArray) (n : Int) (s : ByteArray) (b : List Int) (u c : Int) (z : ByteArray) (to_ : Int) : spec_l14To.f i l n s b u c z to_ = some (otherOf i to_) := by
 unfold spec_l14To.f otherOf
 rw [spec_in_eq]
 simp only [Option.bind_some]
 by_cases h : decide (0 ≤ to_ ∧ to_ ≤ 20) = true
 ·rw [if_pos h, h]
  rfl
 ·rw [if_neg h, Bool.eq_false_iff.mpr h]
  rfl
def gossipOf (i c : Int) (z : ByteArray) (to_ : Int) : List IMsg := if otherOf i to_ = true then [(⟨1, i, to_, (⟨c, z⟩ : IHead), 0, ([] : List ByteArray)⟩ : IMsg)] else []
def askOf (i : Int) (l : List ByteArray) (c : Int) (z : ByteArray) (to_ : Int) : List IMsg := if otherOf i to_ = true then (if c ≤ (l.length : Int) then [] else [(⟨2, i, to_, (⟨c, z⟩ : IHead), (l.length : Int), ([] : List ByteArray)⟩ : IMsg)]) else []
theorem impl_gossip_eq (i : Int) (l : List ByteArray) (n : Int) (s : ByteArray) (b : List Int) (u c : Int) (z : ByteArray) (to_ : Int) : impl_Mirror_gossip.f i l n s b u c z to_ = some (gossipOf i c z to_, i, n, s, u, c, z) := by
 unfold impl_Mirror_gossip.f gossipOf
 rw [isOther_eq]
 simp only [Option.bind_some]
 by_cases h : otherOf i to_ = true
 ·rw [if_pos h, if_pos h]
 ·rw [if_neg h, if_neg h]
theorem impl_ask_eq (i : Int) (l : List ByteArray) (n : Int) (s : ByteArray) (b : List Int) (u c : Int) (z : ByteArray) (to_ : Int) : impl_Mirror_askFor.f i l n s b u c z to_ = some (askOf i l c z to_, i, n, s, u, c, z) := by
 unfold impl_Mirror_askFor.f askOf
 rw [isOther_eq]
 simp only [Option.bind_some]
 by_cases h : otherOf i to_ = true
 ·rw [if_pos h, if_pos h]
  by_cases h2 : c ≤ (l.length : Int)
  ·rw [if_pos h2, if_pos h2]
  ·rw [if_neg h2, if_neg h2]
 ·rw [if_neg h, if_neg h]
theorem spec_gossip_eq (i : Int) (l : List ByteArray) (n : Int) (s : ByteArray) (b : List Int) (u c : Int) (z : ByteArray) (to_ : Int) : spec_l14Gossip.f i l n s b u c z to_ = some (gossipOf i c z to_) := by
 unfold spec_l14Gossip.f gossipOf
 rw [spec_To_eq]
 simp only [Option.bind_some]
 by_cases h : otherOf i to_ = true
 ·rw [if_pos h, if_pos h]
 ·rw [if_neg h, if_neg h]
theorem spec_ask_eq (i : Int) (l : List ByteArray) (n : Int) (s : ByteArray) (b : List Int) (u c : Int) (z : ByteArray) (to_ : Int) : spec_l14Ask.f i l n s b u c z to_ = some (askOf i l c z to_) := by
 unfold spec_l14Ask.f askOf
 rw [spec_To_eq]
 simp only [Option.bind_some]
 by_cases h : otherOf i to_ = true
 ·rw [if_pos h, if_pos h]
  by_cases h2 : c ≤ (l.length : Int)
  ·rw [if_pos h2, if_pos h2]
  ·rw [if_neg h2, if_neg h2]
 ·rw [if_neg h, if_neg h]
theorem said_both (i : Int) (l : List ByteArray) (n : Int) (s : ByteArray) (b : List Int) (u c : Int) (z : ByteArray) (t : List IHead) (hb : InB b) (hl : b.length ≤ 1048576) (hs : ∀ x ∈ l, x.size ≤ bigB) (ht : t.length ≤ 9223372036854775807) :
  ∃ r : Bool, (r = true → (0 ≤ i ∧ i ≤ 20) ∧ headOk c z = true) ∧ ∀ to_, Ev (fun k => spec_Gossip.f k i l n s b u c z t to_) (if r = true then gossipOf i c z to_ else []) ∧ Ev (fun k => impl_Gossip.f k i l n s b u c z t to_) (if r = true then gossipOf i c z to_ else []) ∧
   Ev (fun k => spec_AskFor.f k i l n s b u c z t to_) (if r = true then askOf i l c z to_ else []) ∧ Ev (fun k => impl_AskFor.f k i l n s b u c z t to_) (if r = true then askOf i l c z to_ else []) := by
 obtain ⟨r, h1, h2, h3, _⟩ := mirrorOk_told i l n s b u c z t hb hl hs ht
 refine ⟨r, fun h => ⟨(h3 h).1, (h3 h).2.1⟩, fun to_ => ?_⟩
 unfold spec_Gossip.f impl_Gossip.f spec_AskFor.f impl_AskFor.f
 cases r with
 | true => exact ⟨Ev.bind h1 (Ev.pos rfl (Ev.bind (Ev.const (spec_gossip_eq ..)) (Ev.now _))), Ev.bind h2 (Ev.pos rfl (Ev.bind (Ev.const (impl_gossip_eq ..)) (Ev.now _))), Ev.bind h1 (Ev.pos rfl (Ev.bind (Ev.const (spec_ask_eq ..)) (Ev.now _))), Ev.bind h2 (Ev.pos rfl (Ev.bind (Ev.const (impl_ask_eq ..)) (Ev.now _)))⟩
 | false => exact ⟨Ev.bind h1 (Ev.neg (by simp) (Ev.now _)), Ev.bind h2 (Ev.neg (by simp) (Ev.now _)), Ev.bind h1 (Ev.neg (by simp) (Ev.now _)), Ev.bind h2 (Ev.neg (by simp) (Ev.now _))⟩
end Go.Proofs.YtnlndmoecljicaaGreat.Q
end
