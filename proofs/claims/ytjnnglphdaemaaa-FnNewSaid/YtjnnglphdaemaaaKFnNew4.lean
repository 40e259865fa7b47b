-- Joined and shortened by a program of this session (wip/tools/shakecopy.py): the words of the print, texts of pp.sh and of mine.
import Derived.Test.YtjnnglphdaemaaaKFnNew3
import Derived.Deep.Slices
import Derived.ChangeArms
import Derived.Lib.SliceRun
section
-- Written by a program of this session (wip/tools/pp.sh) over the print of the kit.
namespace Go.Proofs.Ytjnnglphdaemaaa.Q
open Go.RowKit Go.Proofs.YtjnnglphdaemaaaW.PrintWords Go.Proofs.YtjnnglphdaemaaaW.PrintLast Go.Proofs.YtjnnglphdaemaaaW.PrintMore
attribute [local go_sem] max2_int min2_int max_two min_two max_three min_three max_four min_four   -- for this text's walks alone
set_option linter.unusedVariables false
set_option linter.unusedSimpArgs false
def slices_Equal_string_string.l0 : Nat → List ByteArray → List ByteArray → Int → Int → Option (Bool)
 | 0, _, _, _, _ => none
 | k + 1, x0, x1, x12, x13 => if x13 < x12 then (if 0 ≤ x13 then (if x13 < (x0.length : Int) then (if x13 < (x1.length : Int) then (if (rdOf ByteArray.empty x0 x13).toList = (rdOf ByteArray.empty x1 x13).toList then (slices_Equal_string_string.l0 k x0 x1 x12 (wrap64 (x13 + 1))) else (some false)) else (none)) else (none)) else (none)) else (some true)
def slices_Equal_string_string.f (k : Nat) (l0 : List ByteArray) (l1 : List ByteArray) : Option (Bool) := if (l0.length : Int) = (l1.length : Int) then (slices_Equal_string_string.l0 k l0 l1 (l0.length : Int) 0) else (some false)
theorem slices_Equal_string_string.mono_l : ∀ k, (∀ y0 y1 y2 y3, LeO (slices_Equal_string_string.l0 k y0 y1 y2 y3) (slices_Equal_string_string.l0 (k + 1) y0 y1 y2 y3))
 | 0 => fun _ _ _ _ r h => by simp [slices_Equal_string_string.l0] at h
 | k + 1 => by
  have ih0 := slices_Equal_string_string.mono_l k
  ·intro y0 y1 y2 y3
   unfold slices_Equal_string_string.l0
   repeat' (with_reducible first | exact LeO.refl _ | exact LeO.none _ | apply ih0 | apply LeO.ite | refine LeO.bind ?_ fun _ => ?_)
theorem slices_Equal_string_string.mono : ∀ a0 a1 k, LeO (slices_Equal_string_string.f k a0 a1) (slices_Equal_string_string.f (k + 1) a0 a1) := by
 intro a0 a1 k
 have ih0 := slices_Equal_string_string.mono_l k
 unfold slices_Equal_string_string.f
 repeat' (with_reducible first | exact LeO.refl _ | exact LeO.none _ | apply ih0 | apply LeO.ite | refine LeO.bind ?_ fun _ => ?_)
set_option maxHeartbeats 8000000 in
set_option maxRecDepth 100000 in
theorem slices_Equal_string_string.calls (k : Nat) (A0 : Option Addr) (c0 : Nat) (l0 : List ByteArray) (A1 : Option Addr) (c1 : Nat) (l1 : List ByteArray) (r : Bool) (w : World) (hr0 : Kd.C Kd.string w A0 l0.length l0) (hc0 : l0.length ≤ c0) (hr1 : Kd.C Kd.string w A1 l1.length l1) (hc1 : l1.length ≤ c1) (h : slices_Equal_string_string.f k l0 l1 = some r) :
  Calls Try.prog 69 #[.slice A0 l0.length c0, .slice A1 l1.length c1] w fun e w' => e = .returned (.bool r) ∧ Drawn0 w w' := by
 have HR0 := Aside0.mk hr0
 have HC0 := Aside0.mk hc0
 clear hr0 hc0
 have HR1 := Aside0.mk hr1
 have HC1 := Aside0.mk hc1
 clear hr1 hc1
 have H : (if (l0.length : Int) = (l1.length : Int) then (slices_Equal_string_string.l0 k l0 l1 (l0.length : Int) 0) else (some false)) = some r := h
 clear h
 replace H := it_ H; obtain ⟨c3, H⟩ | ⟨c3, H⟩ := H
 ·have c3b0 : ((l0.length : Int) == (l1.length : Int)) = true := beq_iff_eq.mpr c3
  have c3b1 : ((l0.length : Int) != (l1.length : Int)) = false := bne_eq_false_iff_eq.mpr c3
  have c3b2 : (l0.length == l1.length) = true := by first | simpa using c3 | (simp at c3 ⊢; omega)
  clear c3
  have H' := Aside0.mk H
  clear H
  go_enter Try.func69, Try.ntmps69
  go_wp2
  repeat (go_quiet (fail); try go_wp2)
  go_loopg [13] k (fun kq v13 w' => ∃ (x13_1 : Int), v13 = .int .i64 x13_1 ∧ Aside0 (slices_Equal_string_string.l0 kq l0 l1 (l0.length : Int) x13_1 = some r) ∧ Aside0 (kq ≤ k) ∧ Drawn0 w w')
  case atStart => exact ⟨(0), e1_, H', ⟨Nat.le_refl _⟩, dw_⟩
  case round =>
   clear H'
   try clear c3
   try clear c3b0
   try clear c3b1
   try clear c3b2
   obtain ⟨x13_1, rfl, HA, HK1, ⟨m1, rfl⟩⟩ := hrel
   cases gk with
   | zero => exact absurd HA.out (by simp [slices_Equal_string_string.l0])
   | succ k1 =>
    have H := HA.out
    clear HA
    simp only [slices_Equal_string_string.l0] at H
    replace H := itd_ H; obtain ⟨c4b0, H⟩ | ⟨c4b0, H⟩ := H
    ·replace H := ipd_ H; obtain ⟨c5b0, H⟩ := H
     replace H := ipd_ H; obtain ⟨c6b0, H⟩ := H
     replace H := ipd_ H; obtain ⟨c7b0, H⟩ := H
     replace H := it_ H; obtain ⟨c8, H⟩ | ⟨c8, H⟩ := H
     ·have c8b0 : ((rdOf ByteArray.empty l0 x13_1).toList == (rdOf ByteArray.empty l1 x13_1).toList) = true := beq_iff_eq.mpr c8
      have c8b1 : ((rdOf ByteArray.empty l0 x13_1).toList != (rdOf ByteArray.empty l1 x13_1).toList) = false := bne_eq_false_iff_eq.mpr c8
      clear c8
      have H' := Aside0.mk H
      clear H
      have p601 : 0 ≤ (x13_1 : Int) := of_decide_eq_true as_
      have q601 : x13_1 < (l0.length : Int) := of_decide_eq_true as_
      obtain ⟨ad601, e601, hx601_0⟩ := Kd.at_string HR0.out x13_1 p601 q601
      cases e601
      replace p601 := eq_true p601
      replace q601 := eq_true q601
      have p602 : 0 ≤ (x13_1 : Int) := of_decide_eq_true as_
      have q602 : x13_1 < (l1.length : Int) := of_decide_eq_true as_
      obtain ⟨ad602, e602, hx602_0⟩ := Kd.at_string HR1.out x13_1 p602 q602
      cases e602
      replace p602 := eq_true p602
      replace q602 := eq_true q602
      go_wp2
      repeat (go_quiet (fail); try go_wp2)
      go_roundg k1
      case measure => have := HK1.out; omega
      case rel => exact ⟨(wrap64 (x13_1 + 1)), e1_, H', ⟨by have := HK1.out; omega⟩, dw_⟩
     ·have c8b0 : ((rdOf ByteArray.empty l0 x13_1).toList == (rdOf ByteArray.empty l1 x13_1).toList) = false := beq_eq_false_iff_ne.mpr c8
      have c8b1 : ((rdOf ByteArray.empty l0 x13_1).toList != (rdOf ByteArray.empty l1 x13_1).toList) = true := bne_iff_ne.mpr c8
      obtain rfl := Option.some.inj H
      have p601 : 0 ≤ (x13_1 : Int) := of_decide_eq_true as_
      have q601 : x13_1 < (l0.length : Int) := of_decide_eq_true as_
      obtain ⟨ad601, e601, hx601_0⟩ := Kd.at_string HR0.out x13_1 p601 q601
      cases e601
      replace p601 := eq_true p601
      replace q601 := eq_true q601
      have p602 : 0 ≤ (x13_1 : Int) := of_decide_eq_true as_
      have q602 : x13_1 < (l1.length : Int) := of_decide_eq_true as_
      obtain ⟨ad602, e602, hx602_0⟩ := Kd.at_string HR1.out x13_1 p602 q602
      cases e602
      replace p602 := eq_true p602
      replace q602 := eq_true q602
      go_wp2
      repeat (go_quiet (fail); try go_wp2)
      go_ret
      exact ⟨e1_, dw_⟩
    ·obtain rfl := Option.some.inj H
     go_wp2
     repeat (go_quiet (fail); try go_wp2)
     go_ret
     exact ⟨e1_, dw_⟩
 ·have c3b0 : ((l0.length : Int) == (l1.length : Int)) = false := beq_eq_false_iff_ne.mpr c3
  have c3b1 : ((l0.length : Int) != (l1.length : Int)) = true := bne_iff_ne.mpr c3
  have c3b2 : (l0.length == l1.length) = false := by first | simpa using c3 | (simp at c3 ⊢; omega)
  obtain rfl := Option.some.inj H
  go_enter Try.func69, Try.ntmps69
  go_wp2
  repeat (go_quiet (fail); try go_wp2)
  go_ret
  exact ⟨e1_, dw_⟩
end Go.Proofs.Ytjnnglphdaemaaa.Q
end

section
/- Whether two lists of texts are the same: the program's and the reference's answers are one. Plain. -/
namespace Go.Proofs.Ytjnnglphdaemaaa.Q
open Go.RowKit Go.Proofs.Ytjnnglphdaemaaa.B Go.Proofs.YtjnnglphdaemaaaW.PrintWords
set_option linter.unusedVariables false
set_option linter.unusedSimpArgs false

theorem nextC {i n : Nat} (h : i < n) (hn : n ≤ 9223372036854775807) : wrap64 ((i : Int) + 1) = ((i + 1 : Nat) : Int) := by
  rw [w64 (by omega) (by omega)]
  omega
theorem impl_same_ev (a b : List ByteArray) (ha : a.length ≤ 9223372036854775807) : Ev (fun k => slices_Equal_string_string.f k a b) (decide (a = b)) := by
  unfold slices_Equal_string_string.f
  by_cases hl : a.length = b.length
  · have main : ∀ (d i : Nat), i + d = a.length → a.take i = b.take i → Ev (fun k => slices_Equal_string_string.l0 k a b (a.length : Int) (i : Int)) (decide (a = b)) := by
      intro d
      induction d with
      | zero =>
        intro i hi ht
        rw [List.take_of_length_le (by omega), List.take_of_length_le (by omega)] at ht
        rw [decide_eq_true ht]
        refine Ev.step (fun k => by simp only [slices_Equal_string_string.l0]; rfl) ?_
        exact Ev.neg (by omega) (Ev.now _)
      | succ d ih =>
        intro i hi ht
        obtain ⟨x, hx⟩ := get_some (l := a) (i := i) (by omega)
        obtain ⟨y, hy⟩ := get_some (l := b) (i := i) (by omega)
        refine Ev.step (fun k => by simp only [slices_Equal_string_string.l0]; rfl) ?_
        rw [rdOf_at hx, rdOf_at hy, nextC (show i < a.length by omega) ha]
        by_cases h : x.toList = y.toList
        · have e := bytes_ext h
          subst e
          exact Ev.pos (by omega) (Ev.pos (by omega) (Ev.pos (by omega) (Ev.pos (by omega) (Ev.pos rfl (ih (i + 1) (by omega) (by rw [take_one hx, take_one hy, ht]))))))
        · have hn : ¬ a = b := by
            intro e
            subst e
            rw [hx] at hy
            exact h (by rw [Option.some.inj hy])
          rw [decide_eq_false hn]
          exact Ev.pos (by omega) (Ev.pos (by omega) (Ev.pos (by omega) (Ev.pos (by omega) (Ev.neg h (Ev.now _)))))
    exact Ev.pos (by omega) (main a.length 0 (by omega) (by simp))
  · have hn : ¬ a = b := fun e => hl (by rw [e])
    rw [decide_eq_false hn]
    exact Ev.neg (by omega) (Ev.now _)
end Go.Proofs.Ytjnnglphdaemaaa.Q
end

section
-- Written by a program of this session (wip/tools/pp.sh) over the print of the kit.
namespace Go.Proofs.Ytjnnglphdaemaaa.Q
open Go.RowKit Go.Proofs.YtjnnglphdaemaaaW.PrintWords Go.Proofs.YtjnnglphdaemaaaW.PrintLast Go.Proofs.YtjnnglphdaemaaaW.PrintMore
attribute [local go_sem] max2_int min2_int max_two min_two max_three min_three max_four min_four   -- for this text's walks alone
set_option linter.unusedVariables false
set_option linter.unusedSimpArgs false
attribute [local go_sem high] eqA28
mutual
def impl_StoreOk.j0 : Nat → Bool → List ByteArray → Int → ByteArray → List Int → Int → Option (Bool)
 | 0, _, _, _, _, _, _ => none
 | k + 1, x27, x602000, x602001, x602002, x602003, x602004 => if x27 = true then (some false) else (impl_StoreOk.l0 k ([] : List ByteArray) 0 x602000 x602001 x602002 x602003 x602004)
def impl_StoreOk.l0 : Nat → List ByteArray → Int → List ByteArray → Int → ByteArray → List Int → Int → Option (Bool)
 | 0, _, _, _, _, _, _, _ => none
 | k + 1, x3, x4, x602000, x602001, x602002, x602003, x602004 => if x4 < (x602003.length : Int) then ((impl_GetCommit.f k x602003 x4).bind fun bt605 => (if x3.length + bt605.2.2.1.length < 8796093022208 then ((some (x3 ++ bt605.2.2.1 : List ByteArray)).bind fun y613 => (if bt605.2.2.2.2 = true then ((impl_HeadOf.f k y613).bind fun bt616 => (if (!(bt605.1 == bt616.1) || (!(bt605.2.1.toList == bt616.2.toList))) = true then (some false) else (impl_StoreOk.l0 k y613 bt605.2.2.2.1 x602000 x602001 x602002 x602003 x602004))) else (some false))) else (none))) else ((slices_Equal_string_string.f k x3 x602000).bind fun t604 => (some t604))
end
def impl_StoreOk.f (k : Nat) (l0_0 : List ByteArray) (a0_1 : Int) (a0_2 : ByteArray) (l0_3 : List Int) (a0_4 : Int) : Option (Bool) := (impl_LogOk.f k l0_0 a0_1 a0_2).bind fun t602 => (if t602 = true then (if (l0_3.length : Int) > 60000 then (impl_StoreOk.j0 k true l0_0 a0_1 a0_2 l0_3 a0_4) else ((impl_inRange.f a0_4 0 (l0_3.length : Int)).bind fun t603 => (impl_StoreOk.j0 k (!t603) l0_0 a0_1 a0_2 l0_3 a0_4))) else (impl_StoreOk.j0 k true l0_0 a0_1 a0_2 l0_3 a0_4))
theorem impl_StoreOk.mono_l : ∀ k, (∀ y0 y1 y2 y3 y4 y5, LeO (impl_StoreOk.j0 k y0 y1 y2 y3 y4 y5) (impl_StoreOk.j0 (k + 1) y0 y1 y2 y3 y4 y5)) ∧ (∀ y0 y1 y2 y3 y4 y5 y6, LeO (impl_StoreOk.l0 k y0 y1 y2 y3 y4 y5 y6) (impl_StoreOk.l0 (k + 1) y0 y1 y2 y3 y4 y5 y6))
 | 0 => ⟨fun _ _ _ _ _ _ r h => by simp [impl_StoreOk.j0] at h, fun _ _ _ _ _ _ _ r h => by simp [impl_StoreOk.l0] at h⟩
 | k + 1 => by
  obtain ⟨ih0, ih1⟩ := impl_StoreOk.mono_l k
  refine ⟨?_, ?_⟩
  ·intro y0 y1 y2 y3 y4 y5
   unfold impl_StoreOk.j0
   repeat' (with_reducible first | exact LeO.refl _ | exact LeO.none _ | apply ih0 | apply ih1 | apply impl_GetCommit.mono | apply impl_HeadOf.mono | apply impl_LogOk.mono | apply slices_Equal_string_string.mono | apply LeO.ite | refine LeO.bind ?_ fun _ => ?_)
  ·intro y0 y1 y2 y3 y4 y5 y6
   unfold impl_StoreOk.l0
   repeat' (with_reducible first | exact LeO.refl _ | exact LeO.none _ | apply ih0 | apply ih1 | apply impl_GetCommit.mono | apply impl_HeadOf.mono | apply impl_LogOk.mono | apply slices_Equal_string_string.mono | apply LeO.ite | refine LeO.bind ?_ fun _ => ?_)
theorem impl_StoreOk.mono : ∀ a0 a1 a2 a3 a4 k, LeO (impl_StoreOk.f k a0 a1 a2 a3 a4) (impl_StoreOk.f (k + 1) a0 a1 a2 a3 a4) := by
 intro a0 a1 a2 a3 a4 k
 obtain ⟨ih0, ih1⟩ := impl_StoreOk.mono_l k
 unfold impl_StoreOk.f
 repeat' (with_reducible first | exact LeO.refl _ | exact LeO.none _ | apply ih0 | apply ih1 | apply impl_GetCommit.mono | apply impl_HeadOf.mono | apply impl_LogOk.mono | apply slices_Equal_string_string.mono | apply LeO.ite | refine LeO.bind ?_ fun _ => ?_)
def impl_StoreOk.T8 : Bool × List (List Nat × List Nat) := (true, [([], []), ([0], [0]), ([1], [1]), ([2], [2]), ([2], [2]), ([4, 2, 2], [2, 4]), ([3, 5, 2], [2, 3, 5]), ([2, 6], [2, 6])])
def impl_StoreOk.B8 : List Nat := [0, 1, 3, 7, 7, 23, 63, 127]
theorem impl_StoreOk.tab8 : rtab .any (opsOf Try.f19 8) = impl_StoreOk.T8 := by kernel_rfl
theorem impl_StoreOk.bits8 : waitsOk impl_StoreOk.T8.2 impl_StoreOk.B8 = true := by kernel_rfl
set_option maxHeartbeats 8000000 in
set_option maxRecDepth 100000 in
theorem impl_StoreOk.calls (k : Nat) (A0_0 : Option Addr) (c0_0 : Nat) (l0_0 : List ByteArray) (a0_1 : Int) (a0_2 : ByteArray) (A0_3 : Option Addr) (c0_3 : Nat) (l0_3 : List Int) (a0_4 : Int) (r : Bool) (w : World) (hr0_0 : Kd.C Kd.string w A0_0 l0_0.length l0_0) (hc0_0 : l0_0.length ≤ c0_0) (hr0_3 : Kd.C (Kd.int .u8) w A0_3 l0_3.length l0_3) (hc0_3 : l0_3.length ≤ c0_3) (h : impl_StoreOk.f k l0_0 a0_1 a0_2 l0_3 a0_4 = some r) :
  Calls Try.prog 19 #[.agg #[.slice A0_0 l0_0.length c0_0, .int .i64 a0_1, .string a0_2, .slice A0_3 l0_3.length c0_3, .int .i64 a0_4]] w fun e w' => e = .returned (.bool r) ∧ Below w.heap.size w w' := by
 have hu37 := Try.underlying37
 have hu31 := Try.underlying31
 have hu28 := Try.underlying28
 have HR0_0 := Aside0.mk hr0_0
 have HC0_0 := Aside0.mk hc0_0
 clear hr0_0 hc0_0
 have HR0_3 := Aside0.mk hr0_3
 have HC0_3 := Aside0.mk hc0_3
 clear hr0_3 hc0_3
 have HB := Aside0.mk (Below.refl w.heap.size w)
 have H : ((impl_LogOk.f k l0_0 a0_1 a0_2).bind fun t602 => (if t602 = true then (if (l0_3.length : Int) > 60000 then (impl_StoreOk.j0 k true l0_0 a0_1 a0_2 l0_3 a0_4) else ((impl_inRange.f a0_4 0 (l0_3.length : Int)).bind fun t603 => (impl_StoreOk.j0 k (!t603) l0_0 a0_1 a0_2 l0_3 a0_4))) else (impl_StoreOk.j0 k true l0_0 a0_1 a0_2 l0_3 a0_4))) = some r := h
 clear h
 have HC2 := Aside0.mk H
 clear H
 go_enter Try.func19, Try.ntmps19
 go_upto_region 1 with (first | ((with_reducible refine gd_ 1 ?_); (try (refine gate_guard (by rfl) ?_; dsimp only)); refine bx_ 1 37 #[.slice A0_0 l0_0.length c0_0, .int .i64 a0_1, .string a0_2, .slice A0_3 l0_3.length c0_3, .int .i64 a0_4] ?_; intro gb601 hg w3 hbox hb; have BK601 := Aside0.mk hbox; have GW601 := gg_ hg HB; have GE601 := GW601; replace HB := ss_ HB hb; clear hb hbox hg))
 (try simp only [Act.put, List.setIfInBounds_toArray, List.set_cons_zero, List.set_cons_succ])
 go_cut [27] (fun v27 wc => ∃ (kq : Nat) (x27_1 : Bool), v27 = .bool x27_1 ∧ Aside0 (impl_StoreOk.j0 kq x27_1 l0_0 a0_1 a0_2 l0_3 a0_4 = some r) ∧ Aside0 (kq ≤ k) ∧ Aside0 (wc.heap[gb601]? = some (.cells #[(.slice A0_0 l0_0.length c0_0), .int .i64 a0_1, .string a0_2, (.slice A0_3 l0_3.length c0_3), .int .i64 a0_4] 37 (0, 0))) ∧ Aside0 (Below w.heap.size w wc))
 case first =>
  have H := HC2.out
  clear HC2
  replace H := bi_ H; obtain ⟨t602, A4, H⟩ := H
  replace H := itb_ H; obtain ⟨rfl, H⟩ | ⟨rfl, H⟩ := H
  ·replace H := it_ H; obtain ⟨c6, H⟩ | ⟨c6, H⟩ := H
   ·have c6b0 : decide (60000 < (l0_3.length : Int)) = true := decide_eq_true c6
    have c6b1 : decide (60000 < l0_3.length) = true := decide_eq_true (by omega)
    clear c6
    (first | rw [c6b0] | (simp only [i64_w, i32_w]; rw [c6b0]) | rw [c6b1] | skip)
    have H' := Aside0.mk H
    clear H
    have hz7 := cz5_ BK601
    go_wp2_with (first | ((with_reducible refine gq_ 17 11 ?_); refine gc_ 11 Try.func17 (impl_LogOk.calls k _ _ l0_0 a0_1 a0_2 true _ (cb_ HR0_0 HB) HC0_0.out A4.out) ?_; rintro e w8 ⟨rfl, hb⟩; refine ⟨_, rfl, ?_⟩; replace BK601 := kl_ BK601 hb; replace HB := ss_ HB hb; clear hb; have hz9 := cz5_ BK601))
    go_meet
    case rel => exact ⟨_, (true), e1_, H', ⟨le_⟩, ⟨kb_ BK601.out⟩, ⟨bw_ HB⟩⟩
   ·have c6b0 : decide (60000 < (l0_3.length : Int)) = false := decide_eq_false c6
    have c6b1 : decide (60000 < l0_3.length) = false := decide_eq_false (by omega)
    clear c6
    (first | rw [c6b0] | (simp only [i64_w, i32_w]; rw [c6b0]) | rw [c6b1] | skip)
    replace H := bi_ H; obtain ⟨t603, A10, H⟩ := H
    have H' := Aside0.mk H
    clear H
    have hz11 := cz5_ BK601
    go_wp2_with (first | ((with_reducible refine gq_ 17 11 ?_); refine gc_ 11 Try.func17 (impl_LogOk.calls k _ _ l0_0 a0_1 a0_2 true _ (cb_ HR0_0 HB) HC0_0.out A4.out) ?_; rintro e w12 ⟨rfl, hb⟩; refine ⟨_, rfl, ?_⟩; replace BK601 := kl_ BK601 hb; replace HB := ss_ HB hb; clear hb; have hz13 := cz5_ BK601) | (go_at_call 67; (with_reducible refine (impl_inRange.calls a0_4 0 (l0_3.length : Int) t603 _ A10.out).mono ?_); rintro e w' ⟨rfl, ⟨nd, rfl⟩⟩))
    go_meet
    case rel => exact ⟨_, (!t603), e1_, H', ⟨le_⟩, ⟨kb_ BK601.out⟩, ⟨bw_ HB⟩⟩
  ·have H' := Aside0.mk H
   clear H
   have hz14 := cz5_ BK601
   go_wp2_with (first | ((with_reducible refine gq_ 17 11 ?_); refine gc_ 11 Try.func17 (impl_LogOk.calls k _ _ l0_0 a0_1 a0_2 false _ (cb_ HR0_0 HB) HC0_0.out A4.out) ?_; rintro e w15 ⟨rfl, hb⟩; refine ⟨_, rfl, ?_⟩; replace BK601 := kl_ BK601 hb; replace HB := ss_ HB hb; clear hb))
   go_meet
   case rel => exact ⟨_, (true), e1_, H', ⟨le_⟩, ⟨kb_ BK601.out⟩, ⟨bw_ HB⟩⟩
 case rest =>
  clear HC2
  obtain ⟨kq, x27_1, rfl, HA, HJ1, BK601, HB⟩ := hcut
  cases kq with
  | zero => exact absurd HA.out (by simp [impl_StoreOk.j0])
  | succ kj1 =>
   have H := HA.out
   clear HA
   simp only [impl_StoreOk.j0] at H
   replace H := itb_ H; obtain ⟨rfl, H⟩ | ⟨rfl, H⟩ := H
   ·obtain rfl := Option.some.inj H
    go_wp2
    go_ret
    exact ⟨e2_, bw_ HB⟩
   ·have H' := Aside0.mk H
    clear H
    go_wp2
    go_loopg [3, 4] kj1 (fun kq v3 v4 w' => ∃ (x3_2 : List ByteArray) (x4_2 : Int), v4 = .int .i64 x4_2 ∧ Aside0 (impl_StoreOk.l0 kq x3_2 x4_2 l0_0 a0_1 a0_2 l0_3 a0_4 = some r) ∧ Aside0 (kq ≤ kj1) ∧ Aside0 (Kd.R Kd.string 9 w' w.heap.size (fun _ => True) v3 x3_2) ∧ Aside0 (w'.heap[gb601]? = some (.cells #[(.slice A0_0 l0_0.length c0_0), .int .i64 a0_1, .string a0_2, (.slice A0_3 l0_3.length c0_3), .int .i64 a0_4] 37 (0, 0))) ∧ Aside0 (Below w.heap.size w w'))
    case atStart => exact ⟨(([] : List ByteArray)), (0), e1_, H', ⟨Nat.le_refl _⟩, ⟨by first | exact Kd.R_nil _ _ _ _ _ | exact Kd.N_nil _ _ _ _ _ | exact Kd.V_nil _ _ _ _ _ | exact Kd.Q_nil _ _ _ _ _ | exact Kd.S_nil _ _ _ _ _⟩, ⟨kb_ BK601.out⟩, ⟨bw_ HB⟩⟩
    case round =>
     clear H'
     try clear c1
     try clear p2
     try clear c5
     try clear c6
     try clear c6b0
     try clear c6b1
     try clear hz11
     try clear hz13
     try clear hz14
     try clear hz7
     try clear hz9
     obtain ⟨x3_2, x4_2, rfl, HA, HK2, HO_3, BK601, HB⟩ := hrel
     cases gk with
     | zero => exact absurd HA.out (by simp [impl_StoreOk.l0])
     | succ k2 =>
      have H := HA.out
      clear HA
      simp only [impl_StoreOk.l0] at H
      replace H := itd_ H; obtain ⟨c17b0, H⟩ | ⟨c17b0, H⟩ := H
      ·replace H := bi_ H; obtain ⟨⟨t605, t606, t607, t610, t611⟩, A18, H⟩ := H
       dsimp only at H
       replace H := ip_ H; obtain ⟨c19, H⟩ := H
       have LMc19 := Aside0.mk c19
       clear c19
       obtain ⟨y613, Ny613, H⟩ := sb_ (x3_2 ++ t607) H
       replace H := itb_ H; obtain ⟨rfl, H⟩ | ⟨rfl, H⟩ := H
       ·replace H := bi_ H; obtain ⟨⟨t616, t617⟩, A21, H⟩ := H
        dsimp only at H
        replace H := it_ H; obtain ⟨c22, H⟩ | ⟨c22, H⟩ := H
        ·have c22b0 : (!(t605 == t616) || (!(t606.toList == t617.toList))) = true := c22
         clear c22
         obtain rfl := Option.some.inj H
         have hz23 := cz5_ BK601
         try go_wp2_with (first | ((with_reducible refine gq_ 68 37 ?_); refine gc_ 37 Try.func68 (impl_GetCommit.calls k2 _ _ l0_3 x4_2 t605 t606 t607 t610 true _ (cb_ HR0_3 HB) HC0_3.out A18.out) ?_; rintro e w24 ⟨v608, rfl, ho0, hb⟩; refine ⟨_, rfl, ?_⟩; have HO609 := Aside0.mk (Kd.R_lower (Kd.R_new' ho0 (lt_ HO_3)) (sz_ HB)); replace HO_3 := re_ HO_3 ho0 hb; replace BK601 := kl_ BK601 hb; replace HB := ss_ HB hb; clear hb ho0) | ((with_reducible refine gd_ 5 ?_); (try (refine gate_guard (by rfl) ?_; dsimp only)); refine bx_ 5 28 #[.int .i64 0, .string (⟨#[]⟩ : ByteArray)] ?_; intro gb612 hg w25 hbox hb; replace HO_3 := rb_ HO_3 hb; replace HO609 := rb_ HO609 hb; have BK612 := Aside0.mk hbox; have GW612 := gg_ hg HB; have GE612 := GW612; replace HB := ss_ HB hb; have NB601_612 := nla_ hg BK601; have NB612_601 := nga_ hg BK601; replace BK601 := kl_ BK601 hb; clear hb hbox hg; have hnb26 := NB612_601.out; have hnc26 := NB601_612.out; have hz27 := cz2_ BK612; obtain ⟨Ao29, co29, eo29⟩ := Kd.R_slice HO609.out; subst eo29) | ((with_reducible refine gate_builtin (b := .append) (xs := #[.tmp 42, .tmp 43]) rfl ?_); (try (refine gate_guard (by rfl) ?_; dsimp only)); at_builtin; refine Kd.R_append_rows Kd.string (w0 := w) w.heap.size rfl (.tmp 42) (.tmp 43) 24 9 (.string ⟨#[]⟩) 16 rfl Try.underlying24 info9 rfl (by decide) (by omega) u3 x3_2 t607 _ _ _ (fun k_ => some k_ ≠ (.slice Ao29 t607.length co29 : Value).ownBlock) (fun _ => False) rfl rfl ?aO ?aR (fun _ _ h => h) (fun _ h => h.elim) ?aF ?aB ?aS ?aL ?_; (case aR => exact chf_ HO609 BK612); (case aB => exact (bw_ HB)); (case aF => exact (fun k_ hk => Kd.fresh' (lf_ HO609 BK612) k_ hk)); (case aO => exact (kr_ (Kd.R_mono (Kd.R_far (p := ⟨gb612, 1, none⟩) (Kd.R_far (p := ⟨gb612, 0, none⟩) (Kd.R_types HO_3.out BK612.out (by decide)) (fun _ hk => hk.2) (.int .i64 t605)) (fun _ hk => hk.2) (.string t606)) (fun _ hk => hk.1.2)))); (case aS => exact (sz_ HB)); (case aL => have := LMc19.out; omega); intro v614 w28 ho hb hg hat; rw [← Ny613.out] at ho; replace BK601 := kgp_ BK601 HO_3 hg; replace HO609 := Aside0.mk (Kd.R_after (ok := (fun _ => True)) (kr_ (Kd.R_mono (Kd.R_far (p := ⟨gb612, 1, none⟩) (Kd.R_far (p := ⟨gb612, 0, none⟩) (Kd.R_types HO609.out BK612.out (by decide)) (fun _ hk => hk.2) (.int .i64 t605)) (fun _ hk => hk.2) (.string t606)) (fun _ hk => ⟨trivial, hk.1.2⟩))) hg hat); replace BK612 := kgp_ BK612 HO_3 hg; replace HB := Aside0.mk hb; have HO615 := Aside0.mk ho; clear HO_3; clear ho hb hg hat))
         replace HO609 := Aside0.mk (Kd.R_drew HO609.out)
         replace HO615 := Aside0.mk (Kd.R_drew HO615.out)
         replace BK601 := Aside0.mk (blk_drew BK601.out)
         replace BK612 := Aside0.mk (blk_drew BK612.out)
         replace HB := Aside0.mk (below_drew1 HB.out)
         obtain ⟨Ao31, co31, eo31⟩ := Kd.R_slice HO615.out
         (first | subst eo31 | (injection eo31 with f1_ f2_ f3_; have f4_ := f1_.symm; have f5_ := f3_.symm; clear f1_ f2_ f3_; subst f4_; subst f5_))
         refine start_ (n := 8) (S := fun w' => w'.cell? ⟨gb612, 0, none⟩ = some (.int .i64 t605) ∧ w'.cell? ⟨gb612, 1, none⟩ = some (.string t606)) (ds := []) (lz_ 8 0) (by kernel_rfl) rfl rfl ⟨bc0_ BK612.out, bc1_ BK612.out⟩ (fun hHeld => ?_); refine with_tabW impl_StoreOk.tab8 impl_StoreOk.bits8 (fun HT_ HW_ => ?_)
         generalize w28.drew = w30 at HO609 HO615 BK601 BK612 HB hHeld ⊢
         refine pt_ 0 45 1 ?_
         refine pt_ 1 46 3 ?_
         refine pt_ 2 47 7 ?_
         refine pt_ 4 49 23 ?_
         refine tt_ 3 48 31 ?_
         refine one_ (i := 5) (N := some 50) (lz_ 8 63) rfl rfl (one_of HT_.out (by kernel_rfl)) (by decide) (fun K hK => ?_)
         refine gf_ Try.func12 (impl_HeadOf.calls k2 _ _ y613 t616 t617 _ (ch_ HO615) (cl_ HO615) A21.out) ?_
         rintro e w32 ⟨rfl, hb⟩
         refine ⟨_, rfl, ?_⟩
         replace HO609 := rb_ HO609 hb
         replace HO615 := rb_ HO615 hb
         replace BK601 := kl_ BK601 hb
         replace BK612 := kl_ BK612 hb
         replace HB := ss_ HB hb
         clear hb
         refine hK.out _ _ ⟨bc0_ BK612.out, bc1_ BK612.out⟩ (fun hHeld => ?_)
         clear hK K
         refine no_ 50 ?_
         refine pt_ 6 51 127 ?_
         refine pt_ 7 52 255 ?_
         refine done_ (done_of HT_.out (by kernel_rfl)) ?_
         try go_wp2
         go_ret
         exact ⟨e2_, bw_ HB⟩
        ·have c22b0 : (!(t605 == t616) || (!(t606.toList == t617.toList))) = false := by simpa using c22
         clear c22
         have H' := Aside0.mk H
         clear H
         have hz33 := cz5_ BK601
         try go_wp2_with (first | ((with_reducible refine gq_ 68 37 ?_); refine gc_ 37 Try.func68 (impl_GetCommit.calls k2 _ _ l0_3 x4_2 t605 t606 t607 t610 true _ (cb_ HR0_3 HB) HC0_3.out A18.out) ?_; rintro e w34 ⟨v608, rfl, ho0, hb⟩; refine ⟨_, rfl, ?_⟩; have HO609 := Aside0.mk (Kd.R_lower (Kd.R_new' ho0 (lt_ HO_3)) (sz_ HB)); replace HO_3 := re_ HO_3 ho0 hb; replace BK601 := kl_ BK601 hb; replace HB := ss_ HB hb; clear hb ho0) | ((with_reducible refine gd_ 5 ?_); (try (refine gate_guard (by rfl) ?_; dsimp only)); refine bx_ 5 28 #[.int .i64 0, .string (⟨#[]⟩ : ByteArray)] ?_; intro gb612 hg w35 hbox hb; replace HO_3 := rb_ HO_3 hb; replace HO609 := rb_ HO609 hb; have BK612 := Aside0.mk hbox; have GW612 := gg_ hg HB; have GE612 := GW612; replace HB := ss_ HB hb; have NB601_612 := nla_ hg BK601; have NB612_601 := nga_ hg BK601; replace BK601 := kl_ BK601 hb; clear hb hbox hg; have hnb36 := NB612_601.out; have hnc36 := NB601_612.out; have hz37 := cz2_ BK612; obtain ⟨Ao39, co39, eo39⟩ := Kd.R_slice HO609.out; subst eo39) | ((with_reducible refine gate_builtin (b := .append) (xs := #[.tmp 42, .tmp 43]) rfl ?_); (try (refine gate_guard (by rfl) ?_; dsimp only)); at_builtin; refine Kd.R_append_rows Kd.string (w0 := w) w.heap.size rfl (.tmp 42) (.tmp 43) 24 9 (.string ⟨#[]⟩) 16 rfl Try.underlying24 info9 rfl (by decide) (by omega) u3 x3_2 t607 _ _ _ (fun k_ => some k_ ≠ (.slice Ao39 t607.length co39 : Value).ownBlock) (fun _ => False) rfl rfl ?aO ?aR (fun _ _ h => h) (fun _ h => h.elim) ?aF ?aB ?aS ?aL ?_; (case aR => exact chf_ HO609 BK612); (case aB => exact (bw_ HB)); (case aF => exact (fun k_ hk => Kd.fresh' (lf_ HO609 BK612) k_ hk)); (case aO => exact (kr_ (Kd.R_mono (Kd.R_far (p := ⟨gb612, 1, none⟩) (Kd.R_far (p := ⟨gb612, 0, none⟩) (Kd.R_types HO_3.out BK612.out (by decide)) (fun _ hk => hk.2) (.int .i64 t605)) (fun _ hk => hk.2) (.string t606)) (fun _ hk => hk.1.2)))); (case aS => exact (sz_ HB)); (case aL => have := LMc19.out; omega); intro v614 w38 ho hb hg hat; rw [← Ny613.out] at ho; replace BK601 := kgp_ BK601 HO_3 hg; replace HO609 := Aside0.mk (Kd.R_after (ok := (fun _ => True)) (kr_ (Kd.R_mono (Kd.R_far (p := ⟨gb612, 1, none⟩) (Kd.R_far (p := ⟨gb612, 0, none⟩) (Kd.R_types HO609.out BK612.out (by decide)) (fun _ hk => hk.2) (.int .i64 t605)) (fun _ hk => hk.2) (.string t606)) (fun _ hk => ⟨trivial, hk.1.2⟩))) hg hat); replace BK612 := kgp_ BK612 HO_3 hg; replace HB := Aside0.mk hb; have HO615 := Aside0.mk ho; clear HO_3; clear ho hb hg hat))
         replace HO609 := Aside0.mk (Kd.R_drew HO609.out)
         replace HO615 := Aside0.mk (Kd.R_drew HO615.out)
         replace BK601 := Aside0.mk (blk_drew BK601.out)
         replace BK612 := Aside0.mk (blk_drew BK612.out)
         replace HB := Aside0.mk (below_drew1 HB.out)
         obtain ⟨Ao41, co41, eo41⟩ := Kd.R_slice HO615.out
         (first | subst eo41 | (injection eo41 with f1_ f2_ f3_; have f4_ := f1_.symm; have f5_ := f3_.symm; clear f1_ f2_ f3_; subst f4_; subst f5_))
         refine start_ (n := 8) (S := fun w' => w'.cell? ⟨gb612, 0, none⟩ = some (.int .i64 t605) ∧ w'.cell? ⟨gb612, 1, none⟩ = some (.string t606)) (ds := []) (lz_ 8 0) (by kernel_rfl) rfl rfl ⟨bc0_ BK612.out, bc1_ BK612.out⟩ (fun hHeld => ?_); refine with_tabW impl_StoreOk.tab8 impl_StoreOk.bits8 (fun HT_ HW_ => ?_)
         generalize w38.drew = w40 at HO609 HO615 BK601 BK612 HB hHeld ⊢
         refine pt_ 0 45 1 ?_
         refine pt_ 1 46 3 ?_
         refine pt_ 2 47 7 ?_
         refine pt_ 4 49 23 ?_
         refine tt_ 3 48 31 ?_
         refine one_ (i := 5) (N := some 50) (lz_ 8 63) rfl rfl (one_of HT_.out (by kernel_rfl)) (by decide) (fun K hK => ?_)
         refine gf_ Try.func12 (impl_HeadOf.calls k2 _ _ y613 t616 t617 _ (ch_ HO615) (cl_ HO615) A21.out) ?_
         rintro e w42 ⟨rfl, hb⟩
         refine ⟨_, rfl, ?_⟩
         replace HO609 := rb_ HO609 hb
         replace HO615 := rb_ HO615 hb
         replace BK601 := kl_ BK601 hb
         replace BK612 := kl_ BK612 hb
         replace HB := ss_ HB hb
         clear hb
         refine hK.out _ _ ⟨bc0_ BK612.out, bc1_ BK612.out⟩ (fun hHeld => ?_)
         clear hK K
         refine no_ 50 ?_
         refine pt_ 6 51 127 ?_
         refine pt_ 7 52 255 ?_
         refine done_ (done_of HT_.out (by kernel_rfl)) ?_
         try go_wp2
         go_roundg k2
         case measure => have := HJ1.out; have := HK2.out; omega
         case rel => exact ⟨(y613), (t610), e1_, H', ⟨by have := HJ1.out; have := HK2.out; omega⟩, ⟨by (with_reducible repeat (first | apply Kd.R_alloc | apply Kd.R_drewN | apply Kd.R_drew)); exact Kd.R_mono HO615.out (fun _ hk => trivial)⟩, ⟨kb_ BK601.out⟩, ⟨bw_ HB⟩⟩
       ·obtain rfl := Option.some.inj H
        have hz43 := cz5_ BK601
        try go_wp2_with (first | ((with_reducible refine gq_ 68 37 ?_); refine gc_ 37 Try.func68 (impl_GetCommit.calls k2 _ _ l0_3 x4_2 t605 t606 t607 t610 false _ (cb_ HR0_3 HB) HC0_3.out A18.out) ?_; rintro e w44 ⟨v608, rfl, ho0, hb⟩; refine ⟨_, rfl, ?_⟩; have HO609 := Aside0.mk (Kd.R_lower (Kd.R_new' ho0 (lt_ HO_3)) (sz_ HB)); replace HO_3 := re_ HO_3 ho0 hb; replace BK601 := kl_ BK601 hb; replace HB := ss_ HB hb; clear hb ho0) | ((with_reducible refine gd_ 5 ?_); (try (refine gate_guard (by rfl) ?_; dsimp only)); refine bx_ 5 28 #[.int .i64 0, .string (⟨#[]⟩ : ByteArray)] ?_; intro gb612 hg w45 hbox hb; replace HO_3 := rb_ HO_3 hb; replace HO609 := rb_ HO609 hb; have BK612 := Aside0.mk hbox; have GW612 := gg_ hg HB; have GE612 := GW612; replace HB := ss_ HB hb; have NB601_612 := nla_ hg BK601; have NB612_601 := nga_ hg BK601; replace BK601 := kl_ BK601 hb; clear hb hbox hg; have hnb46 := NB612_601.out; have hnc46 := NB601_612.out; have hz47 := cz2_ BK612; obtain ⟨Ao49, co49, eo49⟩ := Kd.R_slice HO609.out; subst eo49) | ((with_reducible refine gate_builtin (b := .append) (xs := #[.tmp 42, .tmp 43]) rfl ?_); (try (refine gate_guard (by rfl) ?_; dsimp only)); at_builtin; refine Kd.R_append_rows Kd.string (w0 := w) w.heap.size rfl (.tmp 42) (.tmp 43) 24 9 (.string ⟨#[]⟩) 16 rfl Try.underlying24 info9 rfl (by decide) (by omega) u3 x3_2 t607 _ _ _ (fun k_ => some k_ ≠ (.slice Ao49 t607.length co49 : Value).ownBlock) (fun _ => False) rfl rfl ?aO ?aR (fun _ _ h => h) (fun _ h => h.elim) ?aF ?aB ?aS ?aL ?_; (case aR => exact chf_ HO609 BK612); (case aB => exact (bw_ HB)); (case aF => exact (fun k_ hk => Kd.fresh' (lf_ HO609 BK612) k_ hk)); (case aO => exact (kr_ (Kd.R_mono (Kd.R_far (p := ⟨gb612, 1, none⟩) (Kd.R_far (p := ⟨gb612, 0, none⟩) (Kd.R_types HO_3.out BK612.out (by decide)) (fun _ hk => hk.2) (.int .i64 t605)) (fun _ hk => hk.2) (.string t606)) (fun _ hk => hk.1.2)))); (case aS => exact (sz_ HB)); (case aL => have := LMc19.out; omega); intro v614 w48 ho hb hg hat; rw [← Ny613.out] at ho; replace BK601 := kgp_ BK601 HO_3 hg; replace HO609 := Aside0.mk (Kd.R_after (ok := (fun _ => True)) (kr_ (Kd.R_mono (Kd.R_far (p := ⟨gb612, 1, none⟩) (Kd.R_far (p := ⟨gb612, 0, none⟩) (Kd.R_types HO609.out BK612.out (by decide)) (fun _ hk => hk.2) (.int .i64 t605)) (fun _ hk => hk.2) (.string t606)) (fun _ hk => ⟨trivial, hk.1.2⟩))) hg hat); replace BK612 := kgp_ BK612 HO_3 hg; replace HB := Aside0.mk hb; have HO615 := Aside0.mk ho; clear HO_3; clear ho hb hg hat))
        replace HO609 := Aside0.mk (Kd.R_drew HO609.out)
        replace HO615 := Aside0.mk (Kd.R_drew HO615.out)
        replace BK601 := Aside0.mk (blk_drew BK601.out)
        replace BK612 := Aside0.mk (blk_drew BK612.out)
        replace HB := Aside0.mk (below_drew1 HB.out)
        refine start_ (n := 8) (S := fun w' => True) (ds := []) (lz_ 8 0) (by kernel_rfl) rfl rfl trivial (fun hHeld => ?_); refine with_tabW impl_StoreOk.tab8 impl_StoreOk.bits8 (fun HT_ HW_ => ?_)
        generalize w48.drew = w50 at HO609 HO615 BK601 BK612 HB hHeld ⊢
        refine pt_ 0 45 1 ?_
        refine pt_ 1 46 3 ?_
        refine pt_ 2 47 7 ?_
        refine ut_ 3 48 15 ?_
        refine ut_ 4 49 31 ?_
        refine ut_ 5 50 63 ?_
        refine ut_ 6 51 127 ?_
        refine pt_ 7 52 255 ?_
        refine done_ (done_of HT_.out (by kernel_rfl)) ?_
        try go_wp2
        go_ret
        exact ⟨e2_, bw_ HB⟩
      ·replace H := bi_ H; obtain ⟨t604, A51, H⟩ := H
       obtain rfl := Option.some.inj H
       have hz52 := cz5_ BK601
       obtain ⟨Ao53, co53, eo53⟩ := Kd.R_slice HO_3.out
       subst eo53
       go_wp2_with (first | ((with_reducible refine gq_ 69 58 ?_); refine gc_ 58 Try.func69 (slices_Equal_string_string.calls k2 _ _ x3_2 _ _ l0_0 t604 _ (ch_ HO_3) (cl_ HO_3) (cb_ HR0_0 HB) HC0_0.out A51.out) ?_; rintro e w' ⟨rfl, ⟨nd, rfl⟩⟩; refine ⟨_, rfl, ?_⟩))
       go_ret
       exact ⟨e2_, bw_ HB⟩
end Go.Proofs.Ytjnnglphdaemaaa.Q
end

section
-- Written by a program of this session (wip/tools/pp.sh) over the print of the kit.
namespace Go.Proofs.Ytjnnglphdaemaaa.Q
open Go.RowKit Go.Proofs.YtjnnglphdaemaaaW.PrintWords Go.Proofs.YtjnnglphdaemaaaW.PrintLast Go.Proofs.YtjnnglphdaemaaaW.PrintMore
attribute [local go_sem] max2_int min2_int max_two min_two max_three min_three max_four min_four   -- for this text's walks alone
set_option linter.unusedVariables false
set_option linter.unusedSimpArgs false
attribute [local go_sem high] eqA28
end Go.Proofs.Ytjnnglphdaemaaa.Q
end

section
-- Written by a program of this session (wip/tools/pp.sh) over the print of the kit.
namespace Go.Proofs.Ytjnnglphdaemaaa.Q
open Go.RowKit Go.Proofs.YtjnnglphdaemaaaW.PrintWords Go.Proofs.YtjnnglphdaemaaaW.PrintLast Go.Proofs.YtjnnglphdaemaaaW.PrintMore
attribute [local go_sem] max2_int min2_int max_two min_two max_three min_three max_four min_four   -- for this text's walks alone
set_option linter.unusedVariables false
set_option linter.unusedSimpArgs false
end Go.Proofs.Ytjnnglphdaemaaa.Q
end

section
/- Whether a store's bytes make its log: the program's loop and the reference's answer alike. Plain. -/
namespace Go.Proofs.Ytjnnglphdaemaaa.Q
open Go.RowKit Go.Proofs.Ytjnnglphdaemaaa.B Go.Proofs.YtjnnglphdaemaaaW.PrintWords Go.Proofs.YtjnnglphdaemaaaW.PrintMore
set_option linter.unusedVariables false
set_option linter.unusedSimpArgs false

theorem sizes_app {l t : List ByteArray} (h : ∀ x ∈ l, x.size ≤ bigB) (k : ∀ x ∈ t, x.size ≤ bigB) : ∀ x ∈ l ++ t, x.size ≤ bigB := fun x hx => (List.mem_append.1 hx).elim (h x) (k x)
end Go.Proofs.Ytjnnglphdaemaaa.Q
end

section
-- Written by a program of this session (wip/tools/pp.sh) over the print of the kit.
namespace Go.Proofs.Ytjnnglphdaemaaa.Q
open Go.RowKit Go.Proofs.YtjnnglphdaemaaaW.PrintWords Go.Proofs.YtjnnglphdaemaaaW.PrintLast Go.Proofs.YtjnnglphdaemaaaW.PrintMore
attribute [local go_sem] max2_int min2_int max_two min_two max_three min_three max_four min_four   -- for this text's walks alone
set_option linter.unusedVariables false
set_option linter.unusedSimpArgs false
end Go.Proofs.Ytjnnglphdaemaaa.Q
end

section
/- The reference's bytes of a commit. -/
namespace Go.Proofs.Ytjnnglphdaemaaa.Q
open Go.RowKit Go.Proofs.Ytjnnglphdaemaaa.B Go.Proofs.YtjnnglphdaemaaaW.PrintWords Go.Proofs.YtjnnglphdaemaaaW.PrintMore
set_option linter.unusedVariables false
end Go.Proofs.Ytjnnglphdaemaaa.Q
end

section
-- Written by a program of this session (wip/tools/pp.sh) over the print of the kit.
namespace Go.Proofs.Ytjnnglphdaemaaa.Q
open Go.RowKit Go.Proofs.YtjnnglphdaemaaaW.PrintWords Go.Proofs.YtjnnglphdaemaaaW.PrintLast Go.Proofs.YtjnnglphdaemaaaW.PrintMore
attribute [local go_sem] max2_int min2_int max_two min_two max_three min_three max_four min_four   -- for this text's walks alone
set_option linter.unusedVariables false
set_option linter.unusedSimpArgs false
end Go.Proofs.Ytjnnglphdaemaaa.Q
end

section
-- Written by a program of this session (wip/tools/pp.sh) over the print of the kit.
namespace Go.Proofs.Ytjnnglphdaemaaa.Q
open Go.RowKit Go.Proofs.YtjnnglphdaemaaaW.PrintWords Go.Proofs.YtjnnglphdaemaaaW.PrintLast Go.Proofs.YtjnnglphdaemaaaW.PrintMore
attribute [local go_sem] max2_int min2_int max_two min_two max_three min_three max_four min_four   -- for this text's walks alone
set_option linter.unusedVariables false
set_option linter.unusedSimpArgs false
end Go.Proofs.Ytjnnglphdaemaaa.Q
end

section
-- Written by a program of this session (wip/tools/pp.sh) over the print of the kit.
namespace Go.Proofs.Ytjnnglphdaemaaa.Q
open Go.RowKit Go.Proofs.YtjnnglphdaemaaaW.PrintWords Go.Proofs.YtjnnglphdaemaaaW.PrintLast Go.Proofs.YtjnnglphdaemaaaW.PrintMore
attribute [local go_sem] max2_int min2_int max_two min_two max_three min_three max_four min_four   -- for this text's walks alone
set_option linter.unusedVariables false
set_option linter.unusedSimpArgs false
end Go.Proofs.Ytjnnglphdaemaaa.Q
end

section
/- Arguments that were read as data, opened as Lean values: numbers, bools, strings, slices of whatever kind; structs by their fields. For the rows of this seat's laws. -/
namespace Go.Proofs.Ytjnnglphdaemaaa.XO
open Go.RowKit Go.Proofs.YtjnnglphdaemaaaW.PrintWords Go.ChangeShapes Go.WideShapes

/-- What reads as data of type t is a Lean value of kind d, and good. -/
def Opens {α : Type} (P : Program) (d : Kd α) (t : TypeId) (G : α → Prop) : Prop :=
  ∀ {H : Type} {enc : TypeId × Value → H} {w : World} {base : Nat} {spare : Nat → Bool} {held : Bool} {fuel : Nat} {cs : List Value} {x : DataW H × List MemPlace},
    DataW.trod enc P w base spare held fuel t cs = some x → ∃ a : α, d.K w a cs ∧ G a

variable {P : Program} {t : TypeId}

theorem add_add (a : Addr) (x i : Nat) : (a.add x).add i = a.add (x + i) := by
  unfold Addr.add
  by_cases hx : x = 0
  · subst hx
    simp
  · by_cases hi : i = 0
    · subst hi
      simp
    · simp [hx, hi, Nat.add_assoc]
theorem cells_read {w : World} {base : Nat} {a : Addr} {x n : Nat} {cs : List Value} (h : w.cells? base (a.add x) n = some cs) (i : Nat) (u : Value) (hu : cs[i]? = some u) : w.cell? (a.add (x + i)) = some u := by
  unfold World.cells? at h
  split at h
  · have hl : cs.length = n := by simpa using mapM_some_length h
    have hi : i < n := by
      rw [← hl]
      exact (List.getElem?_eq_some_iff.1 hu).1
    have hg := mapM_some_get h i i (by simp [hi])
    rw [hu, add_add] at hg
    exact hg
  · exact absurd h (by simp)

theorem family {α : Type} {p : Nat → α → Prop} (n : Nat) (h : ∀ i, i < n → ∃ x, p i x) : ∃ xs : List α, xs.length = n ∧ ∀ i x, xs[i]? = some x → p i x := by
  induction n with
  | zero => exact ⟨[], rfl, fun i x hx => by simp at hx⟩
  | succ n ih =>
    obtain ⟨xs, h1, h2⟩ := ih (fun i hi => h i (by omega))
    obtain ⟨y, hy⟩ := h n (by omega)
    refine ⟨xs ++ [y], by simp [h1], fun i x hx => ?_⟩
    by_cases hi : i < xs.length
    · rw [List.getElem?_append_left hi] at hx
      exact h2 i x hx
    · rw [List.getElem?_append_right (by omega)] at hx
      have hz : i - xs.length = 0 := by
        rcases Nat.eq_zero_or_pos (i - xs.length) with hz | hz
        · exact hz
        · rw [List.getElem?_eq_none (by simp; omega)] at hx
          exact absurd hx (by simp)
      rw [hz] at hx
      have hxy : y = x := by simpa using hx
      have hin : i = n := by omega
      rw [← hxy, hin]
      exact hy

theorem opens_int {k : IntKind} (ht : P.underlying t = some (.int k)) : Opens P (Kd.int k) t (fun n => (Lit.int k n).wf = true) := by
  intro H enc w base spare held fuel cs x h
  obtain ⟨n, rfl, _, hw⟩ := DataW.trod_int ht h
  exact ⟨n, rfl, hw⟩

theorem opens_slice {α : Type} {d : Kd α} {G : α → Prop} {e : TypeId} (ht : P.underlying t = some (.slice e)) (hc : P.cellsOf e = d.sz) (h0 : Opens P d e G) :
    Opens P (Kd.slice e d) t (fun l => l.length ≤ 9223372036854775807 ∧ ∀ x ∈ l, G x) := by
  intro H enc w base spare held fuel cs x h
  rcases Go.Deep.open_slice ht h with ⟨rfl, _⟩ | ⟨a, len, cap, m, n, D, Pl, rfl, _, hl, hm, hmm, _, hel⟩
  · exact ⟨[], ⟨none, 0, rfl, Nat.le_refl _, rfl, by simp, fun hp => absurd hp (by simp)⟩, by simp, fun x hx => absurd hx (by simp)⟩
  · have hlm : len ≤ m := by
      rw [hmm]
      split
      · exact hl
      · exact Nat.le_refl _
    have hall : ∀ i, i < len → ∃ x : α, (∃ cs', w.cells? base (a.add (i * P.cellsOf e)) (P.cellsOf e) = some cs' ∧ d.K w x cs') ∧ G x := by
      intro i hi
      obtain ⟨cs', h1, h2⟩ := hel i (by omega)
      obtain ⟨x, hk, hg⟩ := h0 h2
      exact ⟨x, ⟨cs', h1, hk⟩, hg⟩
    have hlen : len ≤ 9223372036854775807 := by simp only [maxLen] at hm; omega
    obtain ⟨xs, h1, h2⟩ := family len hall
    refine ⟨xs, ⟨some a, cap, by rw [h1], by omega, rfl, by omega, fun _ => ⟨a, rfl, fun j p hj => ?_⟩⟩, by omega, fun x hx => ?_⟩
    · obtain ⟨⟨cs', hc1, hk⟩, _⟩ := h2 j p hj
      refine ⟨cs', d.K_len hk, hk, fun i u hu => ?_⟩
      rw [hc] at hc1
      exact cells_read hc1 i u hu
    · obtain ⟨i, hi⟩ := List.getElem?_of_mem hx
      exact (h2 i x hi).2

end Go.Proofs.Ytjnnglphdaemaaa.XO
end

section
/- Which Lean values the laws' arguments are opened to: each struct type by its fields. -/
namespace Go.Proofs.Ytjnnglphdaemaaa.Q
open Go.RowKit Go.Proofs.Ytjnnglphdaemaaa.XO Go.Proofs.YtjnnglphdaemaaaW.PrintWords Go.ChangeShapes Go.WideShapes
set_option linter.unusedVariables false
set_option linter.unusedSimpArgs false
end Go.Proofs.Ytjnnglphdaemaaa.Q
end

section
/- What the laws' own helpers do with lists of heads: the copy of a list has its heads; a list equals itself; its weight. -/
namespace Go.Proofs.Ytjnnglphdaemaaa.Q
open Go.RowKit Go.Proofs.Ytjnnglphdaemaaa.B Go.Proofs.YtjnnglphdaemaaaW.PrintWords

abbrev IHead := S28
end Go.Proofs.Ytjnnglphdaemaaa.Q
end

section
-- Written by a program of this session (wip/tools/pp.sh) over the print of the kit.
namespace Go.Proofs.Ytjnnglphdaemaaa.Q
open Go.RowKit Go.Proofs.YtjnnglphdaemaaaW.PrintWords Go.Proofs.YtjnnglphdaemaaaW.PrintLast Go.Proofs.YtjnnglphdaemaaaW.PrintMore
attribute [local go_sem] max2_int min2_int max_two min_two max_three min_three max_four min_four   -- for this text's walks alone
set_option linter.unusedVariables false
set_option linter.unusedSimpArgs false
attribute [local go_sem high] eqA28
end Go.Proofs.Ytjnnglphdaemaaa.Q
end

section
-- Written by a program of this session (wip/tools/pp.sh) over the print of the kit.
namespace Go.Proofs.Ytjnnglphdaemaaa.Q
open Go.RowKit Go.Proofs.YtjnnglphdaemaaaW.PrintWords Go.Proofs.YtjnnglphdaemaaaW.PrintLast Go.Proofs.YtjnnglphdaemaaaW.PrintMore
attribute [local go_sem] max2_int min2_int max_two min_two max_three min_three max_four min_four   -- for this text's walks alone
set_option linter.unusedVariables false
set_option linter.unusedSimpArgs false
attribute [local go_sem high] eqA28
def impl_Head_115.l0 : Nat → List (S28) → Int → Int → Int → ByteArray → Option (Int)
 | 0, _, _, _, _, _ => none
 | k + 1, x0, x7, x8, x602000, x602001 => if x8 < x7 then (if 0 ≤ x8 then (if x8 < (x0.length : Int) then (if (x602000 == ((rd_T28 x0 x8).f0) && (x602001.toList == (((rd_T28 x0 x8).f1).toList))) = true then (some x8) else (impl_Head_115.l0 k x0 x7 (wrap64 (x8 + 1)) x602000 x602001)) else (none)) else (none)) else (some (-1))
def impl_Head_115.f (k : Nat) (l0 : List (S28)) (a1_0 : Int) (a1_1 : ByteArray) : Option (Int) := impl_Head_115.l0 k l0 (l0.length : Int) 0 a1_0 a1_1
theorem impl_Head_115.mono_l : ∀ k, (∀ y0 y1 y2 y3 y4, LeO (impl_Head_115.l0 k y0 y1 y2 y3 y4) (impl_Head_115.l0 (k + 1) y0 y1 y2 y3 y4))
 | 0 => fun _ _ _ _ _ r h => by simp [impl_Head_115.l0] at h
 | k + 1 => by
  have ih0 := impl_Head_115.mono_l k
  ·intro y0 y1 y2 y3 y4
   unfold impl_Head_115.l0
   repeat' (with_reducible first | exact LeO.refl _ | exact LeO.none _ | apply ih0 | apply LeO.ite | refine LeO.bind ?_ fun _ => ?_)
theorem impl_Head_115.mono : ∀ a0 a1 a2 k, LeO (impl_Head_115.f k a0 a1 a2) (impl_Head_115.f (k + 1) a0 a1 a2) := by
 intro a0 a1 a2 k
 have ih0 := impl_Head_115.mono_l k
 unfold impl_Head_115.f
 repeat' (with_reducible first | exact LeO.refl _ | exact LeO.none _ | apply ih0 | apply LeO.ite | refine LeO.bind ?_ fun _ => ?_)
set_option maxHeartbeats 8000000 in
set_option maxRecDepth 100000 in
theorem impl_Head_115.calls (k : Nat) (A0 : Option Addr) (c0 : Nat) (l0 : List (S28)) (a1_0 : Int) (a1_1 : ByteArray) (r : Int) (w : World) (hr0 : Kd.C k28 w A0 l0.length l0) (hc0 : l0.length ≤ c0) (h : impl_Head_115.f k l0 a1_0 a1_1 = some r) :
  Calls Try.prog 115 #[.slice A0 l0.length c0, .agg #[.int .i64 a1_0, .string a1_1]] w fun e w' => e = .returned (.int .i64 r) ∧ Below w.heap.size w w' := by
 have hu28 := Try.underlying28
 have HR0 := Aside0.mk hr0
 have HC0 := Aside0.mk hc0
 clear hr0 hc0
 have HB := Aside0.mk (Below.refl w.heap.size w)
 have H : (impl_Head_115.l0 k l0 (l0.length : Int) 0 a1_0 a1_1) = some r := h
 clear h
 have H' := Aside0.mk H
 clear H
 go_enter Try.func115, Try.ntmps115
 go_wp2_with (first | ((with_reducible refine gd_ 3 ?_); refine bx_ 3 28 #[.int .i64 a1_0, .string a1_1] ?_; intro gb601 hg w3 hbox hb; have BK601 := Aside0.mk hbox; have GW601 := gg_ hg HB; have GE601 := GW601; replace HB := ss_ HB hb; clear hb hbox hg))
 repeat (go_quiet (first | ((with_reducible refine gd_ 3 ?_); refine bx_ 3 28 #[.int .i64 a1_0, .string a1_1] ?_; intro gb601 hg w3 hbox hb; have BK601 := Aside0.mk hbox; have GW601 := gg_ hg HB; have GE601 := gg_ hg HB; replace HB := ss_ HB hb; clear hb hbox hg)); try go_wp2_with (first | ((with_reducible refine gd_ 3 ?_); refine bx_ 3 28 #[.int .i64 a1_0, .string a1_1] ?_; intro gb601 hg w3 hbox hb; have BK601 := Aside0.mk hbox; have GW601 := gg_ hg HB; have GE601 := GW601; replace HB := ss_ HB hb; clear hb hbox hg)))
 go_loopg [8] k (fun kq v8 w' => ∃ (x8_1 : Int), v8 = .int .i64 x8_1 ∧ Aside0 (impl_Head_115.l0 kq l0 (l0.length : Int) x8_1 a1_0 a1_1 = some r) ∧ Aside0 (kq ≤ k) ∧ Aside0 (w'.heap[gb601]? = some (.cells #[.int .i64 a1_0, .string a1_1] 28 (0, 0))) ∧ Aside0 (Below w.heap.size w w'))
 case atStart => exact ⟨(0), e1_, H', ⟨Nat.le_refl _⟩, ⟨kb_ BK601.out⟩, ⟨bw_ HB⟩⟩
 case round =>
  clear H'
  obtain ⟨x8_1, rfl, HA, HK1, BK601, HB⟩ := hrel
  cases gk with
  | zero => exact absurd HA.out (by simp [impl_Head_115.l0])
  | succ k1 =>
   have H := HA.out
   clear HA
   simp only [impl_Head_115.l0] at H
   replace H := itd_ H; obtain ⟨c4b0, H⟩ | ⟨c4b0, H⟩ := H
   ·replace H := ipd_ H; obtain ⟨c5b0, H⟩ := H
    replace H := ipd_ H; obtain ⟨c6b0, H⟩ := H
    replace H := it_ H; obtain ⟨c7, H⟩ | ⟨c7, H⟩ := H
    ·have c7b0 : (a1_0 == ((rd_T28 l0 x8_1).f0) && (a1_1.toList == (((rd_T28 l0 x8_1).f1).toList))) = true := c7
     (try (have c7b1 : decide (a1_0 = ((rd_T28 l0 x8_1).f0) && (a1_1.toList == (((rd_T28 l0 x8_1).f1).toList))) = true := by simpa using c7))
     (try (have c7b2 : (a1_0 == ((rd_T28 l0 x8_1).f0) && (a1_1.toList == (((rd_T28 l0 x8_1).f1).toList))) = true := by simpa using c7))
     clear c7
     obtain rfl := Option.some.inj H
     have hz8 := cz2_ BK601
     have p602 : 0 ≤ (x8_1 : Int) := of_decide_eq_true as_
     have q602 : x8_1 < (l0.length : Int) := of_decide_eq_true as_
     obtain ⟨ad602, e602, hx602_0, hx602_1⟩ := at_T28 HR0.out x8_1 p602 q602
     cases e602
     replace hx602_0 := (HB.out.cell (World.block_lt_of_cell? w _ hx602_0)).trans hx602_0
     replace hx602_1 := (HB.out.cell (World.block_lt_of_cell? w _ hx602_1)).trans hx602_1
     replace p602 := eq_true p602
     replace q602 := eq_true q602
     go_wp2
     repeat (go_quiet (fail); try go_wp2)
     go_ret
     exact ⟨e2_, bw_ HB⟩
    ·have c7b0 : (a1_0 == ((rd_T28 l0 x8_1).f0) && (a1_1.toList == (((rd_T28 l0 x8_1).f1).toList))) = false := by simpa using c7
     (try (have c7b1 : decide (a1_0 = ((rd_T28 l0 x8_1).f0) && (a1_1.toList == (((rd_T28 l0 x8_1).f1).toList))) = false := by simpa using c7))
     (try (have c7b2 : (a1_0 == ((rd_T28 l0 x8_1).f0) && (a1_1.toList == (((rd_T28 l0 x8_1).f1).toList))) = false := by simpa using c7))
     (try (have c7b3 : ¬ (a1_0 = ((rd_T28 l0 x8_1).f0) && (a1_1.toList == (((rd_T28 l0 x8_1).f1).toList))) := by simpa using c7))
     clear c7
     have H' := Aside0.mk H
     clear H
     have hz9 := cz2_ BK601
     have p602 : 0 ≤ (x8_1 : Int) := of_decide_eq_true as_
     have q602 : x8_1 < (l0.length : Int) := of_decide_eq_true as_
     obtain ⟨ad602, e602, hx602_0, hx602_1⟩ := at_T28 HR0.out x8_1 p602 q602
     cases e602
     replace hx602_0 := (HB.out.cell (World.block_lt_of_cell? w _ hx602_0)).trans hx602_0
     replace hx602_1 := (HB.out.cell (World.block_lt_of_cell? w _ hx602_1)).trans hx602_1
     replace p602 := eq_true p602
     replace q602 := eq_true q602
     go_wp2
     repeat (go_quiet (fail); try go_wp2)
     go_roundg k1
     case measure => have := HK1.out; omega
     case rel => exact ⟨(wrap64 (x8_1 + 1)), e1_, H', ⟨by have := HK1.out; omega⟩, ⟨kb_ BK601.out⟩, ⟨bw_ HB⟩⟩
   ·obtain rfl := Option.some.inj H
    go_wp2
    repeat (go_quiet (fail); try go_wp2)
    go_ret
    exact ⟨e2_, bw_ HB⟩
end Go.Proofs.Ytjnnglphdaemaaa.Q
end

section
-- Written by a program of this session (wip/tools/pp.sh) over the print of the kit.
namespace Go.Proofs.Ytjnnglphdaemaaa.Q
open Go.RowKit Go.Proofs.YtjnnglphdaemaaaW.PrintWords Go.Proofs.YtjnnglphdaemaaaW.PrintLast Go.Proofs.YtjnnglphdaemaaaW.PrintMore
attribute [local go_sem] max2_int min2_int max_two min_two max_three min_three max_four min_four   -- for this text's walks alone
set_option linter.unusedVariables false
set_option linter.unusedSimpArgs false
def impl_Head_80.f (k : Nat) (l0 : List (S28)) (a1_0 : Int) (a1_1 : ByteArray) : Option (Bool) := (impl_Head_115.f k l0 a1_0 a1_1).bind fun t602 => (some (decide (t602 ≥ 0)))
theorem impl_Head_80.mono : ∀ a0 a1 a2 k, LeO (impl_Head_80.f k a0 a1 a2) (impl_Head_80.f (k + 1) a0 a1 a2) := by
 intro a0 a1 a2 k
 unfold impl_Head_80.f
 repeat' (with_reducible first | exact LeO.refl _ | exact LeO.none _ | apply impl_Head_115.mono | apply LeO.ite | refine LeO.bind ?_ fun _ => ?_)
set_option maxHeartbeats 8000000 in
set_option maxRecDepth 100000 in
theorem impl_Head_80.calls (k : Nat) (A0 : Option Addr) (c0 : Nat) (l0 : List (S28)) (a1_0 : Int) (a1_1 : ByteArray) (r : Bool) (w : World) (hr0 : Kd.C k28 w A0 l0.length l0) (hc0 : l0.length ≤ c0) (h : impl_Head_80.f k l0 a1_0 a1_1 = some r) :
  Calls Try.prog 80 #[.slice A0 l0.length c0, .agg #[.int .i64 a1_0, .string a1_1]] w fun e w' => e = .returned (.bool r) ∧ Below w.heap.size w w' := by
 have hu28 := Try.underlying28
 have HR0 := Aside0.mk hr0
 have HC0 := Aside0.mk hc0
 clear hr0 hc0
 have HB := Aside0.mk (Below.refl w.heap.size w)
 have H : ((impl_Head_115.f k l0 a1_0 a1_1).bind fun t602 => (some (decide (t602 ≥ 0)))) = some r := h
 clear h
 replace H := bi_ H; obtain ⟨t602, A3, H⟩ := H
 obtain rfl := Option.some.inj H
 go_enter Try.func80, Try.ntmps80
 go_wp2_with (first | ((with_reducible refine gd_ 3 ?_); refine bx_ 3 28 #[.int .i64 a1_0, .string a1_1] ?_; intro gb601 hg w4 hbox hb; have BK601 := Aside0.mk hbox; have GW601 := gg_ hg HB; have GE601 := GW601; replace HB := ss_ HB hb; clear hb hbox hg; have hz5 := cz2_ BK601) | ((with_reducible refine gq_ 115 7 ?_); refine gc_ 7 Try.func115 (impl_Head_115.calls k _ _ l0 a1_0 a1_1 t602 _ (cb_ HR0 HB) HC0.out A3.out) ?_; rintro e w6 ⟨rfl, hb⟩; refine ⟨_, rfl, ?_⟩; replace BK601 := kl_ BK601 hb; replace HB := ss_ HB hb; clear hb))
 go_ret
 exact ⟨e2_, bw_ HB⟩
end Go.Proofs.Ytjnnglphdaemaaa.Q
end

section
-- Written by a program of this session (wip/tools/pp.sh) over the print of the kit.
namespace Go.Proofs.Ytjnnglphdaemaaa.Q
open Go.RowKit Go.Proofs.YtjnnglphdaemaaaW.PrintWords Go.Proofs.YtjnnglphdaemaaaW.PrintLast Go.Proofs.YtjnnglphdaemaaaW.PrintMore
attribute [local go_sem] max2_int min2_int max_two min_two max_three min_three max_four min_four   -- for this text's walks alone
set_option linter.unusedVariables false
set_option linter.unusedSimpArgs false
def impl_IsSigned.f (k : Nat) (l0 : List (S28)) (a1_0 : Int) (a1_1 : ByteArray) : Option (Bool) := (impl_Head_80.f k l0 a1_0 a1_1).bind fun t602 => (some t602)
theorem impl_IsSigned.mono : ∀ a0 a1 a2 k, LeO (impl_IsSigned.f k a0 a1 a2) (impl_IsSigned.f (k + 1) a0 a1 a2) := by
 intro a0 a1 a2 k
 unfold impl_IsSigned.f
 repeat' (with_reducible first | exact LeO.refl _ | exact LeO.none _ | apply impl_Head_80.mono | apply LeO.ite | refine LeO.bind ?_ fun _ => ?_)
set_option maxHeartbeats 8000000 in
set_option maxRecDepth 100000 in
theorem impl_IsSigned.calls (k : Nat) (A0 : Option Addr) (c0 : Nat) (l0 : List (S28)) (a1_0 : Int) (a1_1 : ByteArray) (r : Bool) (w : World) (hr0 : Kd.C k28 w A0 l0.length l0) (hc0 : l0.length ≤ c0) (h : impl_IsSigned.f k l0 a1_0 a1_1 = some r) :
  Calls Try.prog 22 #[.slice A0 l0.length c0, .agg #[.int .i64 a1_0, .string a1_1]] w fun e w' => e = .returned (.bool r) ∧ Below w.heap.size w w' := by
 have hu28 := Try.underlying28
 have HR0 := Aside0.mk hr0
 have HC0 := Aside0.mk hc0
 clear hr0 hc0
 have HB := Aside0.mk (Below.refl w.heap.size w)
 have H : ((impl_Head_80.f k l0 a1_0 a1_1).bind fun t602 => (some t602)) = some r := h
 clear h
 replace H := bi_ H; obtain ⟨t602, A3, H⟩ := H
 obtain rfl := Option.some.inj H
 go_enter Try.func22, Try.ntmps22
 go_wp2_with (first | ((with_reducible refine gd_ 3 ?_); refine bx_ 3 28 #[.int .i64 a1_0, .string a1_1] ?_; intro gb601 hg w4 hbox hb; have BK601 := Aside0.mk hbox; have GW601 := gg_ hg HB; have GE601 := GW601; replace HB := ss_ HB hb; clear hb hbox hg; have hz5 := cz2_ BK601) | ((with_reducible refine gq_ 80 7 ?_); refine gc_ 7 Try.func80 (impl_Head_80.calls k _ _ l0 a1_0 a1_1 t602 _ (cb_ HR0 HB) HC0.out A3.out) ?_; rintro e w6 ⟨rfl, hb⟩; refine ⟨_, rfl, ?_⟩; replace BK601 := kl_ BK601 hb; replace HB := ss_ HB hb; clear hb))
 go_ret
 exact ⟨e2_, bw_ HB⟩
end Go.Proofs.Ytjnnglphdaemaaa.Q
end

section
/- IsSigned, the program's and the reference's: whether a list of heads has one of this size and root. -/
namespace Go.Proofs.Ytjnnglphdaemaaa.Q
open Go.RowKit Go.Proofs.Ytjnnglphdaemaaa.B Go.Proofs.YtjnnglphdaemaaaW.PrintWords

def hasHead (l : List IHead) (a : Int) (b : ByteArray) : Bool := l.any fun x => x.f0 == a && (x.f1.toList == b.toList)

theorem rdI {l : List IHead} {i : Nat} {x : IHead} (h : l[i]? = some x) : rd_T28 l (i : Int) = x := by
  unfold rd_T28
  simp [List.getD_eq_getElem?_getD, h]
theorem next64 {i n : Nat} (h : i < n) (hn : n ≤ 9223372036854775807) : wrap64 ((i : Int) + 1) = ((i + 1 : Nat) : Int) := by
  rw [w64 (by omega) (by omega)]
  omega

theorem impl_Index_ev (l : List IHead) (a : Int) (b : ByteArray) (hl : l.length ≤ 9223372036854775807) : ∃ r, Ev (fun k => impl_Head_115.f k l a b) r ∧ decide (r ≥ 0) = hasHead l a b := by
  have main : ∀ (d i : Nat), i + d = l.length → ∃ r, Ev (fun k => impl_Head_115.l0 k l (l.length : Int) (i : Int) a b) r ∧ decide (r ≥ 0) = hasHead (l.drop i) a b := by
    intro d
    induction d with
    | zero =>
      intro i hi
      refine ⟨-1, Ev.step (f := fun _ => some (-1)) (fun k => ?_) (Ev.now _), ?_⟩
      · simp only [impl_Head_115.l0]
        rw [if_neg (by omega)]
      · rw [List.drop_of_length_le (by omega)]
        rfl
    | succ d ih =>
      intro i hi
      obtain ⟨x, hx⟩ := get_some (l := l) (i := i) (by omega)
      have hsym : (a == x.f0 && (b.toList == x.f1.toList)) = (x.f0 == a && (x.f1.toList == b.toList)) := by
        rw [Bool.beq_comm (a := a), Bool.beq_comm (a := b.toList)]
      by_cases h : (x.f0 == a && (x.f1.toList == b.toList)) = true
      · refine ⟨(i : Int), Ev.step (f := fun _ => some (i : Int)) (fun k => ?_) (Ev.now _), ?_⟩
        · simp only [impl_Head_115.l0]
          rw [if_pos (by omega), if_pos (by omega), if_pos (by omega), rdI hx, hsym, if_pos h]
        · rw [drop_one hx]
          simp only [hasHead, List.any_cons, h, Bool.true_or]
          exact decide_eq_true (by omega)
      · obtain ⟨r, h1, h2⟩ := ih (i + 1) (by omega)
        refine ⟨r, Ev.step (fun k => ?_) h1, ?_⟩
        · simp only [impl_Head_115.l0]
          rw [if_pos (by omega), if_pos (by omega), if_pos (by omega), rdI hx, hsym, if_neg h, next64 (show i < l.length by omega) hl]
        · rw [h2, drop_one hx]
          simp only [hasHead, List.any_cons, Bool.eq_false_iff.mpr h, Bool.false_or]
  obtain ⟨r, h1, h2⟩ := main l.length 0 (by omega)
  exact ⟨r, h1, h2⟩

theorem impl_IsSigned_ev (l : List IHead) (a : Int) (b : ByteArray) (hl : l.length ≤ 9223372036854775807) : Ev (fun k => impl_IsSigned.f k l a b) (hasHead l a b) := by
  obtain ⟨r, h1, h2⟩ := impl_Index_ev l a b hl
  refine Ev.congr (fun k => by unfold impl_IsSigned.f impl_Head_80.f; rfl) ?_
  refine Ev.bind (Ev.bind h1 (Ev.now _)) ?_
  rw [h2]
  exact Ev.now _
end Go.Proofs.Ytjnnglphdaemaaa.Q
end

section
/- slices.Grow of no texts by at least one: new room (bounds: what append takes). Its capacity's bound tells that there is no row. -/
namespace Go.Proofs.Ytjnnglphdaemaaa.Q
open Go.RowKit Go.Proofs.YtjnnglphdaemaaaW.PrintWords Go.Proofs.YtjnnglphdaemaaaW.PrintLast Go.Proofs.YtjnnglphdaemaaaW.PrintMore
set_option linter.unusedVariables false
set_option linter.unusedSimpArgs false

def slices_Grow_string_string.f (l0 : List ByteArray) (a1 : Int) : Option (List ByteArray) := if l0.length = 0 ∧ 1 ≤ a1 ∧ a1 ≤ 1000000000 then some [] else none
theorem slices_Grow_string_string.info : (Try.prog.info? 9).map (fun i => (i.zero, i.size, i.bytes)) = some (some (.string ⟨#[]⟩), 1, 16) := by kernel_rfl
def rowOf : Option Addr → Nat
  | none => 0
  | some _ => 1
set_option maxHeartbeats 1000000 in
set_option maxRecDepth 100000 in
theorem slices_Grow_string_string.calls (A0 : Option Addr) (c0 : Nat) (l0 : List ByteArray) (a1 : Int) (r : List ByteArray) (w : World) (hr0 : Kd.C Kd.string w A0 l0.length l0) (hc0 : rowOf A0 + c0 ≤ 0) (h : slices_Grow_string_string.f l0 a1 = some r) :
    Calls Try.prog 127 #[.slice A0 l0.length c0, .int .i64 a1] w fun e w' => ∃ v0_ : Value, e = .returned (v0_) ∧ Kd.R Kd.string 9 w' w.heap.size (fun _ => True) v0_ r ∧ Below w.heap.size w w' := by
  unfold slices_Grow_string_string.f at h
  by_cases hl : l0.length = 0 ∧ 1 ≤ a1 ∧ a1 ≤ 1000000000
  · rw [if_pos hl] at h
    obtain rfl := Option.some.inj h
    obtain ⟨h0, h1, h2⟩ := hl
    have hA : A0 = none := by
      cases A0 with
      | none => rfl
      | some x => simp [rowOf] at hc0
    subst hA
    have hc : c0 = 0 := by
      simp only [rowOf] at hc0
      omega
    subst hc
    obtain rfl := List.eq_nil_of_length_eq_zero h0
    clear hr0 hc0 h h0
    have LM := Aside0.mk h2
    have L1 := Aside0.mk h1
    have c1 : decide (a1 < 0) = false := decide_eq_false (by omega)
    have hw : wrap64 (a1 - 0) = a1 := by
      rw [Int.sub_zero]
      unfold wrap64
      omega
    have hw2 : wrap64 a1 = a1 := by
      unfold wrap64
      omega
    have c2 : decide (0 < a1) = true := decide_eq_true (by omega)
    clear h1 h2
    have KEY := Aside0.mk (fun (o : Oper) (a : Act) (ops : Array Oper) (rest : List Oper) (Q : Exit → Act → World → Prop) (ho : o.op = .call { callee := .builtin .append, args := #[.tmp 20, .tmp 21], argTypes := #[24, 3] }) (hg : o.guard = none) (hx1 : a.eval (.tmp 20) = .slice none 0 0) (hx2 : a.eval (.tmp 21) = .int .i64 a1) => Kd.R_append_zeros (P := Try.prog) (o := o) (a := a) (ops := ops) (rest := rest) (Q := Q) Kd.string (w0 := w) w.heap.size hg (.tmp 20) (.tmp 21) 24 3 9 (.string ⟨#[]⟩) 16 ho Try.underlying24 Try.underlying3 slices_Grow_string_string.info rfl (by decide) (by omega) (.slice none 0 0) [] ByteArray.empty a1 (fun _ => True) hx1 hx2 rfl (fun _ _ => trivial) (Kd.R_nil _ _ _ _ _) (by have := L1.out; omega) (Below.refl _ _) (Nat.le_refl _) (by have := LM.out; simp only [List.length_nil]; omega))
    go_enter Try.func127, Try.ntmps127
    go_wp2_with (at_builtin; refine KEY.out _ _ _ _ _ rfl rfl ?aS ?aX ?_; (case aS => first | rfl | (go_simp; done) | (go_simp; rfl)); (case aX => first | rfl | (simp [hw2, hw]; done) | (go_simp; done) | (go_simp; rfl)); intro v1 w1 ho hb hg hat; obtain ⟨A1, k1, e1⟩ := Kd.R_slice ho; subst e1; have HO := Aside0.mk ho; have HB := Aside0.mk hb; clear ho hb hg hat)
    go_ret
    exact ⟨_, e2_, Kd.R_take (m := 0) HO.out (Nat.zero_le _), HB.out⟩
  · rw [if_neg hl] at h
    cases h
end Go.Proofs.Ytjnnglphdaemaaa.Q
end

section
-- Written by a program of this session (wip/tools/pp.sh) over the print of the kit.
namespace Go.Proofs.Ytjnnglphdaemaaa.Q
open Go.RowKit Go.Proofs.YtjnnglphdaemaaaW.PrintWords Go.Proofs.YtjnnglphdaemaaaW.PrintLast Go.Proofs.YtjnnglphdaemaaaW.PrintMore
attribute [local go_sem] max2_int min2_int max_two min_two max_three min_three max_four min_four   -- for this text's walks alone
set_option linter.unusedVariables false
set_option linter.unusedSimpArgs false
mutual
def slices_Concat_string_string.l0 : Nat → List (List ByteArray) → Int → List (List ByteArray) → Int → Int → Option (List ByteArray)
 | 0, _, _, _, _, _ => none
 | k + 1, x0, x3, x9, x10, x11 => if x11 < x10 then (if 0 ≤ x11 then (if x11 < (x9.length : Int) then (if (wrap64 (x3 + ((rd_L4 x9 x11).length : Int))) < 0 then (none) else (slices_Concat_string_string.l0 k x0 (wrap64 (x3 + ((rd_L4 x9 x11).length : Int))) x9 x10 (wrap64 (x11 + 1)))) else (none)) else (none)) else ((slices_Grow_string_string.f ([] : List ByteArray) x3).bind fun t602 => (slices_Concat_string_string.l1 k t602 x0 (x0.length : Int) 0))
def slices_Concat_string_string.l1 : Nat → List ByteArray → List (List ByteArray) → Int → Int → Option (List ByteArray)
 | 0, _, _, _, _ => none
 | k + 1, x6, x25, x26, x27 => if x27 < x26 then (if 0 ≤ x27 then (if x27 < (x25.length : Int) then (if x6.length + (rd_L4 x25 x27).length < 8796093022208 then (slices_Concat_string_string.l1 k (x6 ++ (rd_L4 x25 x27)) x25 x26 (wrap64 (x27 + 1))) else (none)) else (none)) else (none)) else (some x6)
end
def slices_Concat_string_string.f (k : Nat) (l0 : List (List ByteArray)) : Option (List ByteArray) := slices_Concat_string_string.l0 k l0 0 l0 (l0.length : Int) 0
theorem slices_Concat_string_string.mono_l : ∀ k, (∀ y0 y1 y2 y3 y4, LeO (slices_Concat_string_string.l0 k y0 y1 y2 y3 y4) (slices_Concat_string_string.l0 (k + 1) y0 y1 y2 y3 y4)) ∧ (∀ y0 y1 y2 y3, LeO (slices_Concat_string_string.l1 k y0 y1 y2 y3) (slices_Concat_string_string.l1 (k + 1) y0 y1 y2 y3))
 | 0 => ⟨fun _ _ _ _ _ r h => by simp [slices_Concat_string_string.l0] at h, fun _ _ _ _ r h => by simp [slices_Concat_string_string.l1] at h⟩
 | k + 1 => by
  obtain ⟨ih0, ih1⟩ := slices_Concat_string_string.mono_l k
  refine ⟨?_, ?_⟩
  ·intro y0 y1 y2 y3 y4
   unfold slices_Concat_string_string.l0
   repeat' (with_reducible first | exact LeO.refl _ | exact LeO.none _ | apply ih0 | apply ih1 | apply LeO.ite | refine LeO.bind ?_ fun _ => ?_)
  ·intro y0 y1 y2 y3
   unfold slices_Concat_string_string.l1
   repeat' (with_reducible first | exact LeO.refl _ | exact LeO.none _ | apply ih0 | apply ih1 | apply LeO.ite | refine LeO.bind ?_ fun _ => ?_)
theorem slices_Concat_string_string.mono : ∀ a0 k, LeO (slices_Concat_string_string.f k a0) (slices_Concat_string_string.f (k + 1) a0) := by
 intro a0 k
 obtain ⟨ih0, ih1⟩ := slices_Concat_string_string.mono_l k
 unfold slices_Concat_string_string.f
 repeat' (with_reducible first | exact LeO.refl _ | exact LeO.none _ | apply ih0 | apply ih1 | apply LeO.ite | refine LeO.bind ?_ fun _ => ?_)
set_option maxHeartbeats 8000000 in
set_option maxRecDepth 100000 in
theorem slices_Concat_string_string.calls (k : Nat) (A0 : Option Addr) (c0 : Nat) (l0 : List (List ByteArray)) (r : List ByteArray) (w : World) (hr0 : Kd.C (Kd.slice 9 Kd.string) w A0 l0.length l0) (hc0 : l0.length ≤ c0) (h : slices_Concat_string_string.f k l0 = some r) :
  Calls Try.prog 106 #[.slice A0 l0.length c0] w fun e w' => ∃ v0_ : Value, e = .returned (v0_) ∧ Kd.R Kd.string 9 w' w.heap.size (fun _ => True) v0_ r ∧ Below w.heap.size w w' := by
 have HR0 := Aside0.mk hr0
 have HC0 := Aside0.mk hc0
 clear hr0 hc0
 have HB := Aside0.mk (Below.refl w.heap.size w)
 have H : (slices_Concat_string_string.l0 k l0 0 l0 (l0.length : Int) 0) = some r := h
 clear h
 have H' := Aside0.mk H
 clear H
 go_enter Try.func106, Try.ntmps106
 go_wp2
 go_loopg [3, 11] k (fun kq v3 v11 w' => ∃ (x3_1 : Int) (x11_1 : Int), v3 = .int .i64 x3_1 ∧ v11 = .int .i64 x11_1 ∧ Aside0 (slices_Concat_string_string.l0 kq l0 x3_1 l0 (l0.length : Int) x11_1 = some r) ∧ Aside0 (kq ≤ k) ∧ Aside0 (Below w.heap.size w w'))
 case atStart => exact ⟨(0), (0), e1_, e1_, H', ⟨Nat.le_refl _⟩, ⟨bw_ HB⟩⟩
 case round =>
  clear H'
  obtain ⟨x3_1, x11_1, rfl, rfl, HA, HK1, HB⟩ := hrel
  cases gk with
  | zero => exact absurd HA.out (by simp [slices_Concat_string_string.l0])
  | succ k1 =>
   have H := HA.out
   clear HA
   simp only [slices_Concat_string_string.l0] at H
   replace H := itd_ H; obtain ⟨c2b0, H⟩ | ⟨c2b0, H⟩ := H
   ·replace H := ipd_ H; obtain ⟨c3b0, H⟩ := H
    replace H := ipd_ H; obtain ⟨c4b0, H⟩ := H
    replace H := ind_ H; obtain ⟨c5b0, H⟩ := H
    have H' := Aside0.mk H
    clear H
    have p601 : 0 ≤ (x11_1 : Int) := of_decide_eq_true as_
    have q601 : x11_1 < (l0.length : Int) := of_decide_eq_true as_
    obtain ⟨ad601, A601_0, c601_0, e601, hx601_0, hl601_0, hi601_0⟩ := at_L4 HR0.out x11_1 p601 q601
    cases e601
    replace hx601_0 := (HB.out.cell (World.block_lt_of_cell? w _ hx601_0)).trans hx601_0
    have HR601_0 := Aside0.mk hi601_0
    have HC601_0 := Aside0.mk hl601_0
    clear hi601_0 hl601_0
    replace p601 := eq_true p601
    replace q601 := eq_true q601
    go_wp2
    go_roundg k1
    case measure => have := HK1.out; omega
    case rel => exact ⟨(wrap64 (x3_1 + ((rd_L4 l0 x11_1).length : Int))), (wrap64 (x11_1 + 1)), e1_, e1_, H', ⟨by have := HK1.out; omega⟩, ⟨bw_ HB⟩⟩
   ·replace H := bi_ H; obtain ⟨t602, A6, H⟩ := H
    have H' := Aside0.mk H
    clear H
    go_wp2_with (first | ((with_reducible refine gk_ 127 ?_); refine gl_ 24 Try.func127 #[.slice none 0 0, .int .i64 x3_1] ?_; (refine (slices_Grow_string_string.calls _ _ ([] : List ByteArray) x3_1 t602 _ ?side1 ?side2 A6.out).mono ?_); (case side1 => exact Kd.C_nil _ _); (case side2 => exact Nat.le_refl _); rintro e w7 ⟨v603, rfl, ho0, hb⟩; refine ⟨_, rfl, ?_⟩; have HO604 := Aside0.mk (Kd.R_lower ho0 (sz_ HB)); replace HB := ss_ HB hb; clear hb ho0))
    go_loopg [6, 27] k1 (fun kq v6 v27 w' => ∃ (x6_2 : List ByteArray) (x27_2 : Int), v27 = .int .i64 x27_2 ∧ Aside0 (slices_Concat_string_string.l1 kq x6_2 l0 (l0.length : Int) x27_2 = some r) ∧ Aside0 (kq ≤ k1) ∧ Aside0 (Kd.R Kd.string 9 w' w.heap.size (fun _ => True) v6 x6_2) ∧ Aside0 (Below w.heap.size w w'))
    case atStart => exact ⟨(t602), (0), e1_, H', ⟨Nat.le_refl _⟩, ⟨kr_ HO604.out⟩, ⟨bw_ HB⟩⟩
    case round =>
     clear H'
     try clear c1
     try clear c2b0
     obtain ⟨x6_2, x27_2, rfl, HA, HK2, HO_6, HB⟩ := hrel
     cases gk with
     | zero => exact absurd HA.out (by simp [slices_Concat_string_string.l1])
     | succ k2 =>
      have H := HA.out
      clear HA
      simp only [slices_Concat_string_string.l1] at H
      replace H := itd_ H; obtain ⟨c8b0, H⟩ | ⟨c8b0, H⟩ := H
      ·replace H := ipd_ H; obtain ⟨c9b0, H⟩ := H
       replace H := ipd_ H; obtain ⟨c10b0, H⟩ := H
       replace H := ip_ H; obtain ⟨c11, H⟩ := H
       have LMc11 := Aside0.mk c11
       clear c11
       obtain ⟨y606, hy606⟩ : ∃ y_ : List ByteArray, y_ = (x6_2 ++ (rd_L4 l0 x27_2)) := ⟨_, rfl⟩
       replace H : (slices_Concat_string_string.l1 k2 y606 l0 (l0.length : Int) (wrap64 (x27_2 + 1))) = some r := yh_ hy606 H
       have Ny606 := Aside0.mk hy606
       clear hy606
       have H' := Aside0.mk H
       clear H
       have p605 : 0 ≤ (x27_2 : Int) := of_decide_eq_true as_
       have q605 : x27_2 < (l0.length : Int) := of_decide_eq_true as_
       obtain ⟨ad605, A605_0, c605_0, e605, hx605_0, hl605_0, hi605_0⟩ := at_L4 HR0.out x27_2 p605 q605
       cases e605
       replace hx605_0 := (HB.out.cell (World.block_lt_of_cell? w _ hx605_0)).trans hx605_0
       have HR605_0 := Aside0.mk hi605_0
       have HC605_0 := Aside0.mk hl605_0
       clear hi605_0 hl605_0
       replace p605 := eq_true p605
       replace q605 := eq_true q605
       go_wp2_with (first | ((with_reducible refine gate_builtin (b := .append) (xs := #[.tmp 31, .tmp 32]) rfl ?_); at_builtin; refine Kd.R_append_rows Kd.string (w0 := w) w.heap.size rfl (.tmp 31) (.tmp 32) 24 9 (.string ⟨#[]⟩) 16 rfl Try.underlying24 info9 rfl (by decide) (by omega) u6 x6_2 (rd_L4 l0 x27_2) _ _ _ (fun _ => True) (fun _ => False) rfl rfl ?aO ?aR (fun _ _ h => h) (fun _ h => h.elim) ?aF ?aB ?aS ?aL ?_; (case aR => exact cb_ HR605_0 HB); (case aB => exact (bw_ HB)); (case aF => exact (fun _ _ => trivial)); (case aO => exact (kr_ HO_6.out)); (case aS => exact (sz_ HB)); (case aL => have := LMc11.out; omega); intro v607 w12 ho hb hg hat; rw [← Ny606.out] at ho; replace HB := Aside0.mk hb; have HO608 := Aside0.mk ho; clear HO_6; clear ho hb hg hat))
       go_roundg k2
       case measure => have := HK1.out; have := HK2.out; omega
       case rel => exact ⟨(y606), (wrap64 (x27_2 + 1)), e1_, H', ⟨by have := HK1.out; have := HK2.out; omega⟩, ⟨kr_ HO608.out⟩, ⟨bw_ HB⟩⟩
      ·obtain rfl := Option.some.inj H
       go_wp2
       go_ret
       exact ⟨_, e2_, kr_ HO_6.out, bw_ HB⟩
end Go.Proofs.Ytjnnglphdaemaaa.Q
end

section
/- slices.Concat of two lists of texts: the one behind the other. -/
namespace Go.Proofs.Ytjnnglphdaemaaa.Q
open Go.RowKit Go.Proofs.Ytjnnglphdaemaaa.B Go.Proofs.YtjnnglphdaemaaaW.PrintWords
theorem one64 : wrap64 (0 + 1) = 1 := by rw [w64 (by omega) (by omega)]; rfl
theorem two64 : wrap64 (1 + 1) = 2 := by rw [w64 (by omega) (by omega)]; rfl
theorem concat_l1 (a b : List ByteArray) (h : a.length + b.length ≤ 1000000000) : Ev (fun k => slices_Concat_string_string.l1 k [] [a, b] 2 0) (a ++ b) := by
  have ea : rd_L4 [a, b] 0 = a := rfl
  have eb : rd_L4 [a, b] 1 = b := rfl
  refine Ev.step (fun k => by simp only [slices_Concat_string_string.l1]; rfl) ?_
  rw [ea, one64]
  refine Ev.pos (by omega) (Ev.pos (by omega) (Ev.pos (by simp) (Ev.pos (by simp; omega) ?_)))
  refine Ev.step (fun k => by simp only [slices_Concat_string_string.l1]; rfl) ?_
  rw [eb, two64]
  refine Ev.pos (by omega) (Ev.pos (by omega) (Ev.pos (by simp) (Ev.pos (by simp; omega) ?_)))
  refine Ev.step (fun k => by simp only [slices_Concat_string_string.l1]; rfl) ?_
  exact Ev.neg (by omega) (Ev.one (Ev.now _) rfl)
theorem concat_ev (a b : List ByteArray) (h : a.length + b.length ≤ 1000000000) (h1 : 1 ≤ a.length + b.length) : Ev (fun k => slices_Concat_string_string.f k [a, b]) (a ++ b) := by
  have ea : rd_L4 [a, b] 0 = a := rfl
  have eb : rd_L4 [a, b] 1 = b := rfl
  have e2 : (([a, b] : List (List ByteArray)).length : Int) = 2 := rfl
  have hg : slices_Grow_string_string.f [] ((a.length : Int) + (b.length : Int)) = some [] := by
    unfold slices_Grow_string_string.f
    rw [if_pos ⟨rfl, by omega, by omega⟩]
  unfold slices_Concat_string_string.f
  refine Ev.step (fun k => by simp only [slices_Concat_string_string.l0]; rfl) ?_
  rw [ea, e2, w64 (x := 0 + (a.length : Int)) (by omega) (by omega), one64, Int.zero_add]
  refine Ev.pos (by omega) (Ev.pos (by omega) (Ev.pos (by omega) (Ev.neg (by omega) ?_)))
  refine Ev.step (fun k => by simp only [slices_Concat_string_string.l0]; rfl) ?_
  rw [eb, e2, w64 (x := (a.length : Int) + (b.length : Int)) (by omega) (by omega), two64]
  refine Ev.pos (by omega) (Ev.pos (by omega) (Ev.pos (by omega) (Ev.neg (by omega) ?_)))
  refine Ev.step (fun k => by simp only [slices_Concat_string_string.l0]; rfl) ?_
  rw [e2]
  exact Ev.neg (by omega) (Ev.bind (Ev.const hg) (concat_l1 a b h))
end Go.Proofs.Ytjnnglphdaemaaa.Q
end

section
/- slices.Clone of texts: the same list in new memory (bounds: what append takes). -/
namespace Go.Proofs.Ytjnnglphdaemaaa.Q
open Go.RowKit Go.Proofs.YtjnnglphdaemaaaW.PrintWords Go.Proofs.YtjnnglphdaemaaaW.PrintLast Go.Proofs.YtjnnglphdaemaaaW.PrintMore
set_option linter.unusedVariables false
set_option linter.unusedSimpArgs false

def slices_Clone_string_string.f (l0 : List ByteArray) : Option (List ByteArray) := if l0.length ≤ 8796093022208 then some l0 else none
theorem slices_Clone_string_string.info : (Try.prog.info? 9).map (fun i => (i.zero, i.size, i.bytes)) = some (some (.string ⟨#[]⟩), 1, 16) := by kernel_rfl
set_option maxHeartbeats 1000000 in
set_option maxRecDepth 100000 in
theorem slices_Clone_string_string.calls (A0 : Option Addr) (c0 : Nat) (l0 : List ByteArray) (r : List ByteArray) (w : World) (hr0 : Kd.C Kd.string w A0 l0.length l0) (hc0 : l0.length ≤ c0) (h : slices_Clone_string_string.f l0 = some r) :
    Calls Try.prog 105 #[.slice A0 l0.length c0] w fun e w' => ∃ v0_ : Value, e = .returned (v0_) ∧ Kd.R Kd.string 9 w' w.heap.size (fun _ => True) v0_ r ∧ Below w.heap.size w w' := by
  unfold slices_Clone_string_string.f at h
  by_cases hl : l0.length ≤ 8796093022208
  · rw [if_pos hl] at h
    obtain rfl := Option.some.inj h
    have LM := Aside0.mk hl
    have HR0 := Aside0.mk hr0
    have HC0 := Aside0.mk hc0
    have hn := fun W : World => Lib.run_eql_slice_nil (P := Try.prog) W 24 9 A0 l0.length c0 0 0 Try.underlying24
    clear hl h hc0
    cases A0 with
    | none =>
      have h0 : l0 = [] := by
        rcases Nat.eq_zero_or_pos l0.length with hz | hz
        · exact List.eq_nil_of_length_eq_zero hz
        · obtain ⟨ad, he, _⟩ := hr0.2.2 hz
          cases he
      subst h0
      clear hr0 hn
      have hn2 := fun W : World => Lib.run_eql_slice_nil (P := Try.prog) W 24 9 none 0 c0 0 0 Try.underlying24
      go_enter Try.func105, Try.ntmps105
      go_wp2
      go_ret
      exact ⟨_, rfl, Kd.R_nil _ _ _ _ _, Below.refl _ _⟩
    | some ad =>
      clear hr0
      go_enter Try.func105, Try.ntmps105
      go_wp2_with (first | ((with_reducible refine gate_dst (N := 5) rfl ?_); refine Kd.R_lit Kd.string _ 9 ?hg (N := 5) ?hd (w0 := w) (xs := ([] : List ByteArray)) (inner := []) (ok := fun _ => True) (okp := fun _ => True) ?hr ?hp (fun _ hk => hk) trivial (Below.refl _ _) (Nat.le_refl _) (by simp) ?_; (case hd => rfl); (case hg => rfl); (case hr => first | (go_simp; done) | (go_simp; rfl)); (case hp => exact (Reps.none _ _)); intro v1 w4 ho5 hb hg_ hnew_; clear hg_ hnew_; have HO := Aside0.mk ho5; have HB := Aside0.mk hb; clear ho5 hb) | ((with_reducible refine gate_builtin (b := .append) (xs := #[.tmp 5, .tmp 6]) rfl ?_); at_builtin; refine Kd.R_append_rows Kd.string (w0 := w) w.heap.size rfl (.tmp 5) (.tmp 6) 24 9 (.string ⟨#[]⟩) 16 rfl Try.underlying24 slices_Clone_string_string.info rfl (by decide) (by omega) v1 [] l0 _ _ _ (fun _ => True) (fun _ => False) rfl rfl ?aO ?aR (fun _ _ h => h) (fun _ h => h.elim) ?aF ?aB ?aS ?aL ?_; (case aR => exact Kd.C_below HR0.out HB.out); (case aB => exact HB.out); (case aF => exact (fun _ _ => trivial)); (case aO => exact HO.out); (case aS => exact HB.out.size); (case aL => have := LM.out; simp only [List.length_nil]; omega); intro v2 w6 ho hb hg hat; have HO2 := Aside0.mk ho; have HB2 := Aside0.mk hb; clear ho hb hg hat))
      go_ret
      exact ⟨_, rfl, by simpa using HO2.out, HB2.out⟩
  · rw [if_neg hl] at h
    cases h
end Go.Proofs.Ytjnnglphdaemaaa.Q
end

section
-- Written by a program of this session (wip/tools/pp.sh) over the print of the kit.
namespace Go.Proofs.Ytjnnglphdaemaaa.Q
open Go.RowKit Go.Proofs.YtjnnglphdaemaaaW.PrintWords Go.Proofs.YtjnnglphdaemaaaW.PrintLast Go.Proofs.YtjnnglphdaemaaaW.PrintMore
attribute [local go_sem] max2_int min2_int max_two min_two max_three min_three max_four min_four   -- for this text's walks alone
set_option linter.unusedVariables false
set_option linter.unusedSimpArgs false
def impl_copyLog.f (l0_0 : List ByteArray) (a0_1 : Int) (a0_2 : ByteArray) : Option (List ByteArray × Int × ByteArray) := (slices_Clone_string_string.f l0_0).bind fun t603 => (some (t603, a0_1, a0_2))
set_option maxHeartbeats 8000000 in
set_option maxRecDepth 100000 in
theorem impl_copyLog.calls (A0_0 : Option Addr) (c0_0 : Nat) (l0_0 : List ByteArray) (a0_1 : Int) (a0_2 : ByteArray) (r1 : List ByteArray) (r2 : Int) (r3 : ByteArray) (w : World) (hr0_0 : Kd.C Kd.string w A0_0 l0_0.length l0_0) (hc0_0 : l0_0.length ≤ c0_0) (h : impl_copyLog.f l0_0 a0_1 a0_2 = some (r1, r2, r3)) :
  Calls Try.prog 63 #[.agg #[.slice A0_0 l0_0.length c0_0, .int .i64 a0_1, .string a0_2]] w fun e w' => ∃ v0_ : Value, e = .returned (.agg #[v0_, .int .i64 r2, .string r3]) ∧ Kd.R Kd.string 9 w' w.heap.size (fun _ => True) v0_ r1 ∧ Below w.heap.size w w' := by
 have hu31 := Try.underlying31
 have HR0_0 := Aside0.mk hr0_0
 have HC0_0 := Aside0.mk hc0_0
 clear hr0_0 hc0_0
 have HB := Aside0.mk (Below.refl w.heap.size w)
 have H : ((slices_Clone_string_string.f l0_0).bind fun t603 => (some (t603, a0_1, a0_2))) = some (r1, r2, r3) := h
 clear h
 replace H := bi_ H; obtain ⟨t603, A2, H⟩ := H
 replace H := so3_ H; obtain ⟨rfl, rfl, rfl⟩ := H
 go_enter Try.func63, Try.ntmps63
 go_wp2_with (first | ((with_reducible refine gd_ 1 ?_); refine bx_ 1 31 #[.slice A0_0 l0_0.length c0_0, .int .i64 a0_1, .string a0_2] ?_; intro gb601 hg w3 hbox hb; have BK601 := Aside0.mk hbox; have GW601 := gg_ hg HB; have GE601 := GW601; replace HB := ss_ HB hb; clear hb hbox hg) | ((with_reducible refine gd_ 2 ?_); refine bx_ 2 31 #[.slice none 0 0, .int .i64 0, .string (⟨#[]⟩ : ByteArray)] ?_; intro gb602 hg w4 hbox hb; have BK602 := Aside0.mk hbox; have GW602 := gg_ hg HB; have GE602 := GW602; replace HB := ss_ HB hb; have NB601_602 := nla_ hg BK601; have NB602_601 := nga_ hg BK601; replace BK601 := kl_ BK601 hb; clear hb hbox hg; have hnb5 := NB601_602.out; have hnc5 := NB602_601.out; have hz6 := cz3_ BK601) | ((with_reducible refine gq_ 105 5 ?_); refine gc_ 5 Try.func105 (slices_Clone_string_string.calls _ _ l0_0 t603 _ (cb_ HR0_0 HB) HC0_0.out A2.out) ?_; rintro e w7 ⟨v604, rfl, ho0, hb⟩; refine ⟨_, rfl, ?_⟩; have HO605 := Aside0.mk (Kd.R_lower ho0 (sz_ HB)); replace BK601 := kl_ BK601 hb; replace BK602 := kl_ BK602 hb; replace HB := ss_ HB hb; clear hb ho0; obtain ⟨Ao8, co8, eo8⟩ := Kd.R_slice HO605.out; subst eo8; have hz9 := cz3_ BK601; have hz10 := cz3_ BK602))
 refine bodyPost_ret (results_cell_row rfl _ _ gb602 31 #[.slice Ao8 t603.length co8, .int .i64 a0_1, .string a0_2] (0, 0) _ rfl (by exact kq_ BK602) Try.underlying31 rfl (by kernel_rfl)) rfl ?_
 exact ⟨_, e2_, by (with_reducible repeat (first | apply Kd.R_alloc | apply Kd.R_drewN | apply Kd.R_drew)); exact Kd.R_mono (Kd.R_far (p := ⟨gb602, 2, none⟩) (Kd.R_far (p := ⟨gb602, 1, none⟩) (Kd.R_far (p := ⟨gb602, 0, none⟩) (Kd.R_far (p := ⟨gb601, 0, none⟩) (Kd.R_types (Kd.R_types HO605.out BK601.out (by decide)) BK602.out (by decide)) (fun _ hk => hk.1.2) (.slice Ao8 t603.length co8)) (fun _ hk => hk.2) (.slice Ao8 t603.length co8)) (fun _ hk => hk.2) (.int .i64 a0_1)) (fun _ hk => hk.2) (.string a0_2)) (fun _ hk => trivial), bw_ HB⟩
end Go.Proofs.Ytjnnglphdaemaaa.Q
end

section
-- Written by a program of this session (wip/tools/pp.sh) over the print of the kit.
namespace Go.Proofs.Ytjnnglphdaemaaa.Q
open Go.RowKit Go.Proofs.YtjnnglphdaemaaaW.PrintWords Go.Proofs.YtjnnglphdaemaaaW.PrintLast Go.Proofs.YtjnnglphdaemaaaW.PrintMore
attribute [local go_sem] max2_int min2_int max_two min_two max_three min_three max_four min_four   -- for this text's walks alone
set_option linter.unusedVariables false
set_option linter.unusedSimpArgs false
end Go.Proofs.Ytjnnglphdaemaaa.Q
end

section
/- What copies of logs return, the program's and the reference's. -/
namespace Go.Proofs.Ytjnnglphdaemaaa.Q
open Go.RowKit Go.Proofs.Ytjnnglphdaemaaa.B Go.Proofs.YtjnnglphdaemaaaW.PrintWords
theorem impl_copyLog_eq (l : List ByteArray) (n : Int) (s : ByteArray) (hl : l.length < 8796093022208) : impl_copyLog.f l n s = some (l, n, s) := by
  unfold impl_copyLog.f slices_Clone_string_string.f
  rw [if_pos (by omega)]
  rfl
end Go.Proofs.Ytjnnglphdaemaaa.Q
end

section
-- Written by a program of this session (wip/tools/pp.sh) over the print of the kit.
namespace Go.Proofs.Ytjnnglphdaemaaa.Q
open Go.RowKit Go.Proofs.YtjnnglphdaemaaaW.PrintWords Go.Proofs.YtjnnglphdaemaaaW.PrintLast Go.Proofs.YtjnnglphdaemaaaW.PrintMore
attribute [local go_sem] max2_int min2_int max_two min_two max_three min_three max_four min_four   -- for this text's walks alone
set_option linter.unusedVariables false
set_option linter.unusedSimpArgs false
attribute [local go_sem high] eqA28
end Go.Proofs.Ytjnnglphdaemaaa.Q
end

section
-- Written by a program of this session (wip/tools/pp.sh) over the print of the kit.
namespace Go.Proofs.Ytjnnglphdaemaaa.Q
open Go.RowKit Go.Proofs.YtjnnglphdaemaaaW.PrintWords Go.Proofs.YtjnnglphdaemaaaW.PrintLast Go.Proofs.YtjnnglphdaemaaaW.PrintMore
attribute [local go_sem] max2_int min2_int max_two min_two max_three min_three max_four min_four   -- for this text's walks alone
set_option linter.unusedVariables false
set_option linter.unusedSimpArgs false
attribute [local go_sem high] eqA28
def impl_extend.j0 : Nat → List (S28) → List ByteArray → Bool → List ByteArray → Int → ByteArray → Int → ByteArray → Option (List ByteArray × Int × ByteArray × Int)
 | 0, _, _, _, _, _, _, _, _ => none
 | k + 1, x1, x3, x11, x602000, x602001, x602002, x603000, x603001 => if x11 = true then ((impl_copyLog.f x602000 x602001 x602002).bind fun bt605 => (some (bt605.1, bt605.2.1, bt605.2.2, 1))) else ((impl_IsSigned.f k x1 x603000 x603001).bind fun t610 => (if t610 = true then (if (x3.length : Int) = 0 then ((impl_copyLog.f x602000 x602001 x602002).bind fun bt611 => (some (bt611.1, bt611.2.1, bt611.2.2, 3))) else ((slices_Concat_string_string.f k (([x602000, x3] : List (List ByteArray)))).bind fun t624 => ((impl_HeadOf.f k t624).bind fun bt627 => (if (!(bt627.1 == x603000) || (!(bt627.2.toList == x603001.toList))) = true then ((impl_copyLog.f x602000 x602001 x602002).bind fun bt629 => (some (bt629.1, bt629.2.1, bt629.2.2, 4))) else (some (t624, x603000, x603001, 0)))))) else ((impl_copyLog.f x602000 x602001 x602002).bind fun bt616 => (some (bt616.1, bt616.2.1, bt616.2.2, 2)))))
def impl_extend.f (k : Nat) (l0_0 : List ByteArray) (a0_1 : Int) (a0_2 : ByteArray) (l1 : List (S28)) (a2_0 : Int) (a2_1 : ByteArray) (l3 : List ByteArray) : Option (List ByteArray × Int × ByteArray × Int) := (impl_HeadOk.f a2_0 a2_1).bind fun t604 => (if t604 = true then (impl_extend.j0 k l1 l3 (a2_0 != (wrap64 ((l0_0.length : Int) + (l3.length : Int)))) l0_0 a0_1 a0_2 a2_0 a2_1) else (impl_extend.j0 k l1 l3 true l0_0 a0_1 a0_2 a2_0 a2_1))
theorem impl_extend.mono_l : ∀ k, (∀ y0 y1 y2 y3 y4 y5 y6 y7, LeO (impl_extend.j0 k y0 y1 y2 y3 y4 y5 y6 y7) (impl_extend.j0 (k + 1) y0 y1 y2 y3 y4 y5 y6 y7))
 | 0 => fun _ _ _ _ _ _ _ _ r h => by simp [impl_extend.j0] at h
 | k + 1 => by
  have ih0 := impl_extend.mono_l k
  ·intro y0 y1 y2 y3 y4 y5 y6 y7
   unfold impl_extend.j0
   repeat' (with_reducible first | exact LeO.refl _ | exact LeO.none _ | apply ih0 | apply impl_HeadOf.mono | apply impl_IsSigned.mono | apply slices_Concat_string_string.mono | apply LeO.ite | refine LeO.bind ?_ fun _ => ?_)
theorem impl_extend.mono : ∀ a0 a1 a2 a3 a4 a5 a6 k, LeO (impl_extend.f k a0 a1 a2 a3 a4 a5 a6) (impl_extend.f (k + 1) a0 a1 a2 a3 a4 a5 a6) := by
 intro a0 a1 a2 a3 a4 a5 a6 k
 have ih0 := impl_extend.mono_l k
 unfold impl_extend.f
 repeat' (with_reducible first | exact LeO.refl _ | exact LeO.none _ | apply ih0 | apply impl_HeadOf.mono | apply impl_IsSigned.mono | apply slices_Concat_string_string.mono | apply LeO.ite | refine LeO.bind ?_ fun _ => ?_)
set_option maxHeartbeats 8000000 in
set_option maxRecDepth 100000 in
theorem impl_extend.calls (k : Nat) (P0_0_ : Nat → Prop) (A0_0 : Option Addr) (c0_0 : Nat) (l0_0 : List ByteArray) (a0_1 : Int) (a0_2 : ByteArray) (A1 : Option Addr) (c1 : Nat) (l1 : List (S28)) (a2_0 : Int) (a2_1 : ByteArray) (P3_ : Nat → Prop) (A3 : Option Addr) (c3 : Nat) (l3 : List ByteArray) (r1 : List ByteArray) (r2 : Int) (r3 : ByteArray) (r4 : Int) (w : World) (hs0_0 : Kd.V Kd.string 9 w w.heap.size (fun k_ => P0_0_ k_) (.slice A0_0 l0_0.length c0_0) l0_0) (hr1 : Kd.C k28 w A1 l1.length l1) (hc1 : l1.length ≤ c1) (hs3 : Kd.V Kd.string 9 w w.heap.size (fun k_ => P3_ k_) (.slice A3 l3.length c3) l3) (h : impl_extend.f k l0_0 a0_1 a0_2 l1 a2_0 a2_1 l3 = some (r1, r2, r3, r4)) :
  Calls Try.prog 64 #[.agg #[.slice A0_0 l0_0.length c0_0, .int .i64 a0_1, .string a0_2], .slice A1 l1.length c1, .agg #[.int .i64 a2_0, .string a2_1], .slice A3 l3.length c3] w fun e w' => ∃ v0_ : Value, e = .returned (.tuple #[.agg #[v0_, .int .i64 r2, .string r3], .int .i64 r4]) ∧ Kd.R Kd.string 9 w' w.heap.size (fun k_ => (w.heap.size ≤ k_)) v0_ r1 ∧ Below w.heap.size w w' := by
 have hu31 := Try.underlying31
 have hu28 := Try.underlying28
 have HO0_0 := Aside0.mk (show Kd.V Kd.string 9 w w.heap.size (fun k_ => ((P0_0_ k_ ∨ P3_ k_) ∨ w.heap.size ≤ k_)) (.slice A0_0 l0_0.length c0_0) l0_0 from Kd.V_mono hs0_0 (fun k_ hk => .inl (.inl hk)))
 have HR1 := Aside0.mk hr1
 have HC1 := Aside0.mk hc1
 clear hr1 hc1
 have HO3 := Aside0.mk (show Kd.V Kd.string 9 w w.heap.size (fun k_ => ((P0_0_ k_ ∨ P3_ k_) ∨ w.heap.size ≤ k_)) (.slice A3 l3.length c3) l3 from Kd.V_mono hs3 (fun k_ hk => .inl (.inr hk)))
 have HB := Aside0.mk (Below.refl w.heap.size w)
 have H : ((impl_HeadOk.f a2_0 a2_1).bind fun t604 => (if t604 = true then (impl_extend.j0 k l1 l3 (a2_0 != (wrap64 ((l0_0.length : Int) + (l3.length : Int)))) l0_0 a0_1 a0_2 a2_0 a2_1) else (impl_extend.j0 k l1 l3 true l0_0 a0_1 a0_2 a2_0 a2_1))) = some (r1, r2, r3, r4) := h
 clear h
 have HC5 := Aside0.mk H
 clear H
 go_enter Try.func64, Try.ntmps64
 go_upto_region 1 with (first | ((with_reducible refine gd_ 4 ?_); (try (refine gate_guard (by rfl) ?_; dsimp only)); refine bx_ 4 31 #[.slice A0_0 l0_0.length c0_0, .int .i64 a0_1, .string a0_2] ?_; intro gb601 hg w6 hbox hb; replace HO0_0 := Aside0.mk (Kd.V_below (Kd.V_elderB (by (with_reducible repeat (first | apply Kd.V_alloc | apply Kd.V_drewN | apply Kd.V_drew)); exact HO0_0.out) gb601 (Nat.le_of_eq hg.symm)) hb); replace HO3 := Aside0.mk (Kd.V_below (Kd.V_elderB (by (with_reducible repeat (first | apply Kd.V_alloc | apply Kd.V_drewN | apply Kd.V_drew)); exact HO3.out) gb601 (Nat.le_of_eq hg.symm)) hb); have BK601 := Aside0.mk hbox; have GW601 := gg_ hg HB; have GE601 := GW601; replace HB := ss_ HB hb; clear hb hbox hg) | ((with_reducible refine gd_ 6 ?_); (try (refine gate_guard (by rfl) ?_; dsimp only)); refine bx_ 6 28 #[.int .i64 a2_0, .string a2_1] ?_; intro gb602 hg w7 hbox hb; replace HO0_0 := Aside0.mk (Kd.V_below (Kd.V_elderB (by (with_reducible repeat (first | apply Kd.V_alloc | apply Kd.V_drewN | apply Kd.V_drew)); exact HO0_0.out) gb602 (Nat.le_of_eq hg.symm)) hb); replace HO3 := Aside0.mk (Kd.V_below (Kd.V_elderB (by (with_reducible repeat (first | apply Kd.V_alloc | apply Kd.V_drewN | apply Kd.V_drew)); exact HO3.out) gb602 (Nat.le_of_eq hg.symm)) hb); have BK602 := Aside0.mk hbox; have GW602 := gg_ hg HB; have GE602 := GW602; replace HB := ss_ HB hb; have NB601_602 := nla_ hg BK601; have NB602_601 := nga_ hg BK601; replace BK601 := kl_ BK601 hb; clear hb hbox hg) | ((with_reducible refine gd_ 8 ?_); (try (refine gate_guard (by rfl) ?_; dsimp only)); refine bx_ 8 31 #[.slice none 0 0, .int .i64 0, .string (⟨#[]⟩ : ByteArray)] ?_; intro gb603 hg w8 hbox hb; replace HO0_0 := Aside0.mk (Kd.V_below (Kd.V_elderB (by (with_reducible repeat (first | apply Kd.V_alloc | apply Kd.V_drewN | apply Kd.V_drew)); exact HO0_0.out) gb603 (Nat.le_of_eq hg.symm)) hb); replace HO3 := Aside0.mk (Kd.V_below (Kd.V_elderB (by (with_reducible repeat (first | apply Kd.V_alloc | apply Kd.V_drewN | apply Kd.V_drew)); exact HO3.out) gb603 (Nat.le_of_eq hg.symm)) hb); have BK603 := Aside0.mk hbox; have GW603 := gg_ hg HB; have GE603 := GW603; replace HB := ss_ HB hb; have NB601_603 := nla_ hg BK601; have NB603_601 := nga_ hg BK601; replace BK601 := kl_ BK601 hb; have NB602_603 := nla_ hg BK602; have NB603_602 := nga_ hg BK602; replace BK602 := kl_ BK602 hb; clear hb hbox hg))
 (try simp only [Act.put, List.setIfInBounds_toArray, List.set_cons_zero, List.set_cons_succ])
 go_cut [11] (fun v11 wc => ∃ (kq : Nat) (x11_4 : Bool), v11 = .bool x11_4 ∧ Aside0 (impl_extend.j0 kq l1 l3 x11_4 l0_0 a0_1 a0_2 a2_0 a2_1 = some (r1, r2, r3, r4)) ∧ Aside0 (kq ≤ k) ∧ Aside0 (Kd.V Kd.string 9 wc w.heap.size (fun k_ => ((P0_0_ k_ ∨ P3_ k_) ∨ w.heap.size ≤ k_) ∧ k_ ≠ gb601 ∧ k_ ≠ gb602 ∧ k_ ≠ gb603) (.slice A3 l3.length c3) l3) ∧ Aside0 (Kd.V Kd.string 9 wc w.heap.size (fun k_ => ((P0_0_ k_ ∨ P3_ k_) ∨ w.heap.size ≤ k_) ∧ k_ ≠ gb601 ∧ k_ ≠ gb602 ∧ k_ ≠ gb603) (.slice A0_0 l0_0.length c0_0) l0_0) ∧ Aside0 (wc.heap[gb601]? = some (.cells #[(.slice A0_0 l0_0.length c0_0), .int .i64 a0_1, .string a0_2] 31 (0, 0))) ∧ Aside0 (wc.heap[gb602]? = some (.cells #[.int .i64 a2_0, .string a2_1] 28 (0, 0))) ∧ Aside0 (wc.heap[gb603]? = some (.cells #[(.slice none 0 0), .int .i64 0, .string (⟨#[]⟩ : ByteArray)] 31 (0, 0))) ∧ Aside0 (Below w.heap.size w wc))
 case first =>
  have H := HC5.out
  clear HC5
  replace H := bi_ H; obtain ⟨t604, A9, H⟩ := H
  replace H := itb_ H; obtain ⟨rfl, H⟩ | ⟨rfl, H⟩ := H
  ·have H' := Aside0.mk H
   clear H
   have hnb11 := NB602_601.out
   have hnc11 := NB601_602.out
   have hnb12 := NB602_603.out
   have hnc12 := NB603_602.out
   have hz13 := cz2_ BK602
   go_wp2_with (first | ((with_reducible refine gq_ 93 13 ?_); refine gc_ 13 Try.func93 (impl_HeadOk.calls a2_0 a2_1 true _ A9.out) ?_; rintro e w14 ⟨rfl, hb⟩; refine ⟨_, rfl, ?_⟩; replace HO0_0 := Aside0.mk (Kd.V_below (by (with_reducible repeat (first | apply Kd.V_alloc | apply Kd.V_drewN | apply Kd.V_drew)); exact HO0_0.out) hb); replace HO3 := Aside0.mk (Kd.V_below (by (with_reducible repeat (first | apply Kd.V_alloc | apply Kd.V_drewN | apply Kd.V_drew)); exact HO3.out) hb); replace BK601 := kl_ BK601 hb; replace BK602 := kl_ BK602 hb; replace BK603 := kl_ BK603 hb; replace HB := ss_ HB hb; clear hb; have hz15 := cz2_ BK602; have hnb16 := NB601_603.out; have hnc16 := NB603_601.out; have hz17 := cz3_ BK601))
   go_meet
   case rel => exact ⟨_, ((a2_0 != (wrap64 ((l0_0.length : Int) + (l3.length : Int))))), e1_, H', ⟨le_⟩, ⟨by (with_reducible repeat (first | apply Kd.V_alloc | apply Kd.V_drewN | apply Kd.V_drew)); exact Kd.V_mono HO3.out (fun _ hk => ⟨hk.1.1.1, ⟨hk.1.1.2, ⟨hk.1.2, hk.2⟩⟩⟩)⟩, ⟨by (with_reducible repeat (first | apply Kd.V_alloc | apply Kd.V_drewN | apply Kd.V_drew)); exact Kd.V_mono HO0_0.out (fun _ hk => ⟨hk.1.1.1, ⟨hk.1.1.2, ⟨hk.1.2, hk.2⟩⟩⟩)⟩, ⟨kb_ BK601.out⟩, ⟨kb_ BK602.out⟩, ⟨kb_ BK603.out⟩, ⟨bw_ HB⟩⟩
  ·have H' := Aside0.mk H
   clear H
   have hnb18 := NB602_601.out
   have hnc18 := NB601_602.out
   have hnb19 := NB602_603.out
   have hnc19 := NB603_602.out
   have hz20 := cz2_ BK602
   go_wp2_with (first | ((with_reducible refine gq_ 93 13 ?_); refine gc_ 13 Try.func93 (impl_HeadOk.calls a2_0 a2_1 false _ A9.out) ?_; rintro e w21 ⟨rfl, hb⟩; refine ⟨_, rfl, ?_⟩; replace HO0_0 := Aside0.mk (Kd.V_below (by (with_reducible repeat (first | apply Kd.V_alloc | apply Kd.V_drewN | apply Kd.V_drew)); exact HO0_0.out) hb); replace HO3 := Aside0.mk (Kd.V_below (by (with_reducible repeat (first | apply Kd.V_alloc | apply Kd.V_drewN | apply Kd.V_drew)); exact HO3.out) hb); replace BK601 := kl_ BK601 hb; replace BK602 := kl_ BK602 hb; replace BK603 := kl_ BK603 hb; replace HB := ss_ HB hb; clear hb))
   go_meet
   case rel => exact ⟨_, (true), e1_, H', ⟨le_⟩, ⟨by (with_reducible repeat (first | apply Kd.V_alloc | apply Kd.V_drewN | apply Kd.V_drew)); exact Kd.V_mono HO3.out (fun _ hk => ⟨hk.1.1.1, ⟨hk.1.1.2, ⟨hk.1.2, hk.2⟩⟩⟩)⟩, ⟨by (with_reducible repeat (first | apply Kd.V_alloc | apply Kd.V_drewN | apply Kd.V_drew)); exact Kd.V_mono HO0_0.out (fun _ hk => ⟨hk.1.1.1, ⟨hk.1.1.2, ⟨hk.1.2, hk.2⟩⟩⟩)⟩, ⟨kb_ BK601.out⟩, ⟨kb_ BK602.out⟩, ⟨kb_ BK603.out⟩, ⟨bw_ HB⟩⟩
 case rest =>
  clear HC5
  try clear c3
  obtain ⟨kq, x11_4, rfl, HA, HJ4, HO_3, HO_602000, BK601, BK602, BK603, HB⟩ := hcut
  cases kq with
  | zero => exact absurd HA.out (by simp [impl_extend.j0])
  | succ kj4 =>
   have H := HA.out
   clear HA
   simp only [impl_extend.j0] at H
   replace H := itb_ H; obtain ⟨rfl, H⟩ | ⟨rfl, H⟩ := H
   ·replace H := bi_ H; obtain ⟨⟨t605, t608, t609⟩, A23, H⟩ := H
    dsimp only at H
    replace H := so4_ H; obtain ⟨rfl, rfl, rfl, rfl⟩ := H
    have hnb24 := NB601_602.out
    have hnc24 := NB602_601.out
    have hnb25 := NB601_603.out
    have hnc25 := NB603_601.out
    have hz26 := cz3_ BK601
    go_wp2_with (first | ((with_reducible refine gq_ 63 27 ?_); refine gc_ 27 Try.func63 (impl_copyLog.calls _ _ l0_0 a0_1 a0_2 t605 t608 t609 _ (cr_ (Kd.V_reads' HO_602000.out).2.2) ((Kd.V_reads' HO_602000.out).2.1) A23.out) ?_; rintro e w27 ⟨v606, rfl, ho0, hb⟩; refine ⟨_, rfl, ?_⟩; replace HO_3 := Aside0.mk (Kd.V_elder' (by (with_reducible repeat (first | apply Kd.V_alloc | apply Kd.V_drewN | apply Kd.V_drew)); exact HO_3.out) (Kd.R_base ho0) hb); replace HO_602000 := Aside0.mk (Kd.V_elder' (by (with_reducible repeat (first | apply Kd.V_alloc | apply Kd.V_drewN | apply Kd.V_drew)); exact HO_602000.out) (Kd.R_base ho0) hb); have HO607 := Aside0.mk (Kd.R_lower (Kd.R_newM (M := fun k_ => (w.heap.size ≤ k_)) ho0 (sz_ HB) (fun k_ h_ => h_)) (sz_ HB)); replace BK601 := kl_ BK601 hb; replace BK602 := kl_ BK602 hb; replace BK603 := kl_ BK603 hb; replace HB := ss_ HB hb; clear hb ho0; obtain ⟨Ao28, co28, eo28⟩ := Kd.R_slice HO607.out; subst eo28; have hnb29 := NB603_602.out; have hnc29 := NB602_603.out; have hz30 := cz3_ BK603))
    refine bodyPost_ret (results_ct rfl _ _ gb603 31 #[.slice Ao28 t605.length co28, .int .i64 t608, .string t609] (0, 0) _ rfl (by exact kq_ BK603) Try.underlying31 rfl (by kernel_rfl)) rfl ?_
    exact ⟨_, e2_, by (with_reducible repeat (first | apply Kd.R_alloc | apply Kd.R_drewN | apply Kd.R_drew)); exact Kd.R_mono (Kd.R_far (p := ⟨gb603, 2, none⟩) (Kd.R_far (p := ⟨gb603, 1, none⟩) (Kd.R_far (p := ⟨gb603, 0, none⟩) (Kd.R_types HO607.out BK603.out (by decide)) (fun _ hk => hk.2) (.slice Ao28 t605.length co28)) (fun _ hk => hk.2) (.int .i64 t608)) (fun _ hk => hk.2) (.string t609)) (fun _ hk => hk.1.1), bw_ HB⟩
   ·replace H := bi_ H; obtain ⟨t610, A31, H⟩ := H
    replace H := itb_ H; obtain ⟨rfl, H⟩ | ⟨rfl, H⟩ := H
    ·replace H := it_ H; obtain ⟨c33, H⟩ | ⟨c33, H⟩ := H
     ·have c33b0 : ((l3.length : Int) == 0) = true := beq_iff_eq.mpr c33
      have c33b1 : ((l3.length : Int) != 0) = false := bne_eq_false_iff_eq.mpr c33
      clear c33
      replace H := bi_ H; obtain ⟨⟨t611, t614, t615⟩, A34, H⟩ := H
      dsimp only at H
      replace H := so4_ H; obtain ⟨rfl, rfl, rfl, rfl⟩ := H
      have hnb35 := NB602_601.out
      have hnc35 := NB601_602.out
      have hnb36 := NB602_603.out
      have hnc36 := NB603_602.out
      have hz37 := cz2_ BK602
      go_wp2_with (first | ((with_reducible refine gq_ 22 31 ?_); refine gc_ 31 Try.func22 (impl_IsSigned.calls kj4 _ _ l1 a2_0 a2_1 true _ (cb_ HR1 HB) HC1.out A31.out) ?_; rintro e w38 ⟨rfl, hb⟩; refine ⟨_, rfl, ?_⟩; replace HO_3 := Aside0.mk (Kd.V_below (by (with_reducible repeat (first | apply Kd.V_alloc | apply Kd.V_drewN | apply Kd.V_drew)); exact HO_3.out) hb); replace HO_602000 := Aside0.mk (Kd.V_below (by (with_reducible repeat (first | apply Kd.V_alloc | apply Kd.V_drewN | apply Kd.V_drew)); exact HO_602000.out) hb); replace BK601 := kl_ BK601 hb; replace BK602 := kl_ BK602 hb; replace BK603 := kl_ BK603 hb; replace HB := ss_ HB hb; clear hb; have hnb39 := NB601_603.out; have hnc39 := NB603_601.out; have hz40 := cz3_ BK601) | ((with_reducible refine gq_ 63 40 ?_); refine gc_ 40 Try.func63 (impl_copyLog.calls _ _ l0_0 a0_1 a0_2 t611 t614 t615 _ (cr_ (Kd.V_reads' HO_602000.out).2.2) ((Kd.V_reads' HO_602000.out).2.1) A34.out) ?_; rintro e w41 ⟨v612, rfl, ho0, hb⟩; refine ⟨_, rfl, ?_⟩; replace HO_3 := Aside0.mk (Kd.V_elder' (by (with_reducible repeat (first | apply Kd.V_alloc | apply Kd.V_drewN | apply Kd.V_drew)); exact HO_3.out) (Kd.R_base ho0) hb); replace HO_602000 := Aside0.mk (Kd.V_elder' (by (with_reducible repeat (first | apply Kd.V_alloc | apply Kd.V_drewN | apply Kd.V_drew)); exact HO_602000.out) (Kd.R_base ho0) hb); have HO613 := Aside0.mk (Kd.R_lower (Kd.R_newM (M := fun k_ => (w.heap.size ≤ k_)) ho0 (sz_ HB) (fun k_ h_ => h_)) (sz_ HB)); replace BK601 := kl_ BK601 hb; replace BK602 := kl_ BK602 hb; replace BK603 := kl_ BK603 hb; replace HB := ss_ HB hb; clear hb ho0; obtain ⟨Ao42, co42, eo42⟩ := Kd.R_slice HO613.out; subst eo42; have hz43 := cz3_ BK603))
      refine bodyPost_ret (results_ct rfl _ _ gb603 31 #[.slice Ao42 t611.length co42, .int .i64 t614, .string t615] (0, 0) _ rfl (by exact kq_ BK603) Try.underlying31 rfl (by kernel_rfl)) rfl ?_
      exact ⟨_, e2_, by (with_reducible repeat (first | apply Kd.R_alloc | apply Kd.R_drewN | apply Kd.R_drew)); exact Kd.R_mono (Kd.R_far (p := ⟨gb603, 2, none⟩) (Kd.R_far (p := ⟨gb603, 1, none⟩) (Kd.R_far (p := ⟨gb603, 0, none⟩) (Kd.R_types HO613.out BK603.out (by decide)) (fun _ hk => hk.2) (.slice Ao42 t611.length co42)) (fun _ hk => hk.2) (.int .i64 t614)) (fun _ hk => hk.2) (.string t615)) (fun _ hk => hk.1.1), bw_ HB⟩
     ·have c33b0 : ((l3.length : Int) == 0) = false := beq_eq_false_iff_ne.mpr c33
      have c33b1 : ((l3.length : Int) != 0) = true := bne_iff_ne.mpr c33
      have c33b2 : ¬ (l3 = []) := fun h_ => c33 (by rw [h_]; rfl)
      obtain ⟨y621, hy621⟩ : ∃ y_ : List (List ByteArray), y_ = (([l0_0, l3] : List (List ByteArray))) := ⟨_, rfl⟩
      replace H : ((slices_Concat_string_string.f kj4 y621).bind fun t624 => ((impl_HeadOf.f kj4 t624).bind fun bt627 => (if (!(bt627.1 == a2_0) || (!(bt627.2.toList == a2_1.toList))) = true then ((impl_copyLog.f l0_0 a0_1 a0_2).bind fun bt629 => (some (bt629.1, bt629.2.1, bt629.2.2, 4))) else (some (t624, a2_0, a2_1, 0))))) = some (r1, r2, r3, r4) := yh_ hy621 H
      have Ny621 := Aside0.mk hy621
      clear hy621
      replace H := bi_ H; obtain ⟨t624, A44, H⟩ := H
      replace H := bi_ H; obtain ⟨⟨t627, t628⟩, A45, H⟩ := H
      dsimp only at H
      replace H := it_ H; obtain ⟨c46, H⟩ | ⟨c46, H⟩ := H
      ·have c46b0 : (!(t627 == a2_0) || (!(t628.toList == a2_1.toList))) = true := c46
       clear c46
       replace H := bi_ H; obtain ⟨⟨t629, t632, t633⟩, A47, H⟩ := H
       dsimp only at H
       replace H := so4_ H; obtain ⟨rfl, rfl, rfl, rfl⟩ := H
       have hnb48 := NB602_601.out
       have hnc48 := NB601_602.out
       have hnb49 := NB602_603.out
       have hnc49 := NB603_602.out
       have hz50 := cz2_ BK602
       try go_wp2_with (first | ((with_reducible refine gq_ 22 31 ?_); refine gc_ 31 Try.func22 (impl_IsSigned.calls kj4 _ _ l1 a2_0 a2_1 true _ (cb_ HR1 HB) HC1.out A31.out) ?_; rintro e w51 ⟨rfl, hb⟩; refine ⟨_, rfl, ?_⟩; replace HO_3 := Aside0.mk (Kd.V_below (by (with_reducible repeat (first | apply Kd.V_alloc | apply Kd.V_drewN | apply Kd.V_drew)); exact HO_3.out) hb); replace HO_602000 := Aside0.mk (Kd.V_below (by (with_reducible repeat (first | apply Kd.V_alloc | apply Kd.V_drewN | apply Kd.V_drew)); exact HO_602000.out) hb); replace BK601 := kl_ BK601 hb; replace BK602 := kl_ BK602 hb; replace BK603 := kl_ BK603 hb; replace HB := ss_ HB hb; clear hb; have hnb52 := NB601_603.out; have hnc52 := NB603_601.out; have hz53 := cz3_ BK601) | ((with_reducible refine gd_ 44 ?_); (try (refine gate_guard (by rfl) ?_; dsimp only)); refine Kd.N_lit (Kd.slice 9 Kd.string) _ 24 ?hg (N' := 44) ?hd (xs := ([l0_0, l3] : List (List ByteArray))) (inner := [.slice A0_0 l0_0.length c0_0, .slice A3 l3.length c3]) (ok := (fun k_ => ((P0_0_ k_ ∨ P3_ k_) ∨ w.heap.size ≤ k_) ∧ k_ ≠ gb601 ∧ k_ ≠ gb602 ∧ k_ ≠ gb603)) (okp := (fun k_ => ((P0_0_ k_ ∨ P3_ k_) ∨ w.heap.size ≤ k_) ∧ k_ ≠ gb601 ∧ k_ ≠ gb602 ∧ k_ ≠ gb603)) ?hr ?hp (fun _ hk => hk) ((show ∀ k_, w51.heap.size ≤ k_ → (fun k_ => ((P0_0_ k_ ∨ P3_ k_) ∨ w.heap.size ≤ k_) ∧ k_ ≠ gb601 ∧ k_ ≠ gb602 ∧ k_ ≠ gb603) k_ from fun k_ hk => ⟨(.inr (Nat.le_trans (sz_ HB) hk)), Kd.freshB (kb_ BK601.out) k_ hk, Kd.freshB (kb_ BK602.out) k_ hk, Kd.freshB (kb_ BK603.out) k_ hk⟩) _ (Nat.le_refl _)) (Below.refl _ _) (Nat.le_refl _) (by simp) ?_; (case hd => rfl); (case hg => rfl); (case hr => first | (go_simp; done) | (go_simp; rfl)); (case hp => exact (Reps.one (show Kd.FK (Kd.slice 9 Kd.string) _ _ l0_0 [.slice A0_0 l0_0.length c0_0] from (Kd.FK_slice_mk (Kd.V_reads' (Kd.V_mono (ok' := (fun k_ => ((P0_0_ k_ ∨ P3_ k_) ∨ w.heap.size ≤ k_) ∧ k_ ≠ gb601 ∧ k_ ≠ gb602 ∧ k_ ≠ gb603)) (HO_602000.out) (fun k_ hk => ⟨hk.1, ⟨hk.2.1, ⟨hk.2.2.1, hk.2.2.2⟩⟩⟩))).2.1 (Kd.V_F (Kd.V_mono (ok' := (fun k_ => ((P0_0_ k_ ∨ P3_ k_) ∨ w.heap.size ≤ k_) ∧ k_ ≠ gb601 ∧ k_ ≠ gb602 ∧ k_ ≠ gb603)) (HO_602000.out) (fun k_ hk => ⟨hk.1, ⟨hk.2.1, ⟨hk.2.2.1, hk.2.2.2⟩⟩⟩))))) (Reps.one (show Kd.FK (Kd.slice 9 Kd.string) _ _ l3 [.slice A3 l3.length c3] from (Kd.FK_slice_mk (Kd.V_reads' (Kd.V_mono (ok' := (fun k_ => ((P0_0_ k_ ∨ P3_ k_) ∨ w.heap.size ≤ k_) ∧ k_ ≠ gb601 ∧ k_ ≠ gb602 ∧ k_ ≠ gb603)) (HO_3.out) (fun k_ hk => ⟨hk.1, ⟨hk.2.1, ⟨hk.2.2.1, hk.2.2.2⟩⟩⟩))).2.1 (Kd.V_F (Kd.V_mono (ok' := (fun k_ => ((P0_0_ k_ ∨ P3_ k_) ∨ w.heap.size ≤ k_) ∧ k_ ≠ gb601 ∧ k_ ≠ gb602 ∧ k_ ≠ gb603)) (HO_3.out) (fun k_ hk => ⟨hk.1, ⟨hk.2.1, ⟨hk.2.2.1, hk.2.2.2⟩⟩⟩))))) (Reps.none _ _)))); intro v622 w54 ho55 hb hg_ hnew_; clear hg_ hnew_; (first | rw [← Ny621.out] at ho55 | (simp only [Int.reduceToNat] at ho55; rw [← Ny621.out] at ho55)); replace HO_3 := Aside0.mk (Kd.V_elder' (by (with_reducible repeat (first | apply Kd.V_alloc | apply Kd.V_drewN | apply Kd.V_drew)); exact HO_3.out) (Kd.N_base ho55) hb); replace HO_602000 := Aside0.mk (Kd.V_elder' (by (with_reducible repeat (first | apply Kd.V_alloc | apply Kd.V_drewN | apply Kd.V_drew)); exact HO_602000.out) (Kd.N_base ho55) hb); have HO623 := Aside0.mk (Kd.N_lower ho55 (sz_ HB)); replace BK601 := kl_ BK601 hb; replace BK602 := kl_ BK602 hb; replace BK603 := kl_ BK603 hb; replace HB := ss_ HB hb; clear hb ho55; obtain ⟨Ao56, co56, eo56⟩ := Kd.N_slice HO623.out; subst eo56) | ((with_reducible refine gq_ 106 45 ?_); refine gc_ 45 Try.func106 (slices_Concat_string_string.calls kj4 _ _ y621 t624 _ (cr_ (Kd.N_reads' HO623.out).2.2) ((Kd.N_reads' HO623.out).2.1) A44.out) ?_; rintro e w57 ⟨v625, rfl, ho0, hb⟩; refine ⟨_, rfl, ?_⟩; replace HO_3 := Aside0.mk (Kd.V_elder' (by (with_reducible repeat (first | apply Kd.V_alloc | apply Kd.V_drewN | apply Kd.V_drew)); exact HO_3.out) (Kd.R_base ho0) hb); replace HO_602000 := Aside0.mk (Kd.V_elder' (by (with_reducible repeat (first | apply Kd.V_alloc | apply Kd.V_drewN | apply Kd.V_drew)); exact HO_602000.out) (Kd.R_base ho0) hb); replace HO623 := Aside0.mk (Kd.N_elder' (by (with_reducible repeat (first | apply Kd.N_alloc | apply Kd.N_drewN | apply Kd.N_drew)); exact HO623.out) (Kd.R_base ho0) hb); have HO626 := Aside0.mk (Kd.R_lower (Kd.R_newM (M := fun k_ => (w.heap.size ≤ k_)) ho0 (sz_ HB) (fun k_ h_ => h_)) (sz_ HB)); replace BK601 := kl_ BK601 hb; replace BK602 := kl_ BK602 hb; replace BK603 := kl_ BK603 hb; replace HB := ss_ HB hb; clear hb ho0))
       replace HO_3 := Aside0.mk (Kd.V_drew HO_3.out)
       replace HO_602000 := Aside0.mk (Kd.V_drew HO_602000.out)
       replace HO623 := Aside0.mk (Kd.N_drew HO623.out)
       replace HO626 := Aside0.mk (Kd.R_drew HO626.out)
       replace BK601 := Aside0.mk (blk_drew BK601.out)
       replace BK602 := Aside0.mk (blk_drew BK602.out)
       replace BK603 := Aside0.mk (blk_drew BK603.out)
       replace HB := Aside0.mk (below_drew1 HB.out)
       obtain ⟨Ao59, co59, eo59⟩ := Kd.R_slice HO626.out
       (first | subst eo59 | (injection eo59 with f1_ f2_ f3_; have f4_ := f1_.symm; have f5_ := f3_.symm; clear f1_ f2_ f3_; subst f4_; subst f5_))
       refine start_ (n := 4) (S := fun w' => w'.cell? ⟨gb602, 0, none⟩ = some (.int .i64 a2_0) ∧ w'.cell? ⟨gb602, 1, none⟩ = some (.string a2_1)) (ds := []) (lz_ 4 0) (by kernel_rfl) rfl rfl ⟨bc0_ BK602.out, bc1_ BK602.out⟩ (fun hHeld => ?_)
       generalize w57.drew = w58 at HO_3 HO_602000 HO623 HO626 BK601 BK602 BK603 HB hHeld ⊢
       refine pk_ 0 46 1 ?_
       refine tk_ 2 48 5 ?_
       refine one_ (i := 1) (N := some 47) (lz_ 4 7) rfl rfl (by kernel_rfl) (by decide) (fun K hK => ?_)
       refine gf_ Try.func12 (impl_HeadOf.calls kj4 _ _ t624 t627 t628 _ (ch_ HO626) (cl_ HO626) A45.out) ?_
       rintro e w60 ⟨rfl, hb⟩
       refine ⟨_, rfl, ?_⟩
       replace HO_3 := Aside0.mk (Kd.V_below (by (with_reducible repeat (first | apply Kd.V_alloc | apply Kd.V_drewN | apply Kd.V_drew)); exact HO_3.out) hb)
       replace HO_602000 := Aside0.mk (Kd.V_below (by (with_reducible repeat (first | apply Kd.V_alloc | apply Kd.V_drewN | apply Kd.V_drew)); exact HO_602000.out) hb)
       replace HO623 := Aside0.mk (Kd.N_below (by (with_reducible repeat (first | apply Kd.N_alloc | apply Kd.N_drewN | apply Kd.N_drew)); exact HO623.out) hb)
       replace HO626 := rb_ HO626 hb
       replace BK601 := kl_ BK601 hb
       replace BK602 := kl_ BK602 hb
       replace BK603 := kl_ BK603 hb
       replace HB := ss_ HB hb
       clear hb
       refine hK.out _ _ ⟨bc0_ BK602.out, bc1_ BK602.out⟩ (fun hHeld => ?_)
       clear hK K
       refine no_ 47 ?_
       refine pk_ 3 49 15 ?_
       refine done_ (by kernel_rfl) ?_
       have hz61 := cz3_ BK601
       try go_wp2_with (first | ((with_reducible refine gq_ 63 51 ?_); refine gc_ 51 Try.func63 (impl_copyLog.calls _ _ l0_0 a0_1 a0_2 t629 t632 t633 _ (cr_ (Kd.V_reads' HO_602000.out).2.2) ((Kd.V_reads' HO_602000.out).2.1) A47.out) ?_; rintro e w62 ⟨v630, rfl, ho0, hb⟩; refine ⟨_, rfl, ?_⟩; replace HO_3 := Aside0.mk (Kd.V_elder' (by (with_reducible repeat (first | apply Kd.V_alloc | apply Kd.V_drewN | apply Kd.V_drew)); exact HO_3.out) (Kd.R_base ho0) hb); replace HO_602000 := Aside0.mk (Kd.V_elder' (by (with_reducible repeat (first | apply Kd.V_alloc | apply Kd.V_drewN | apply Kd.V_drew)); exact HO_602000.out) (Kd.R_base ho0) hb); replace HO623 := Aside0.mk (Kd.N_elder' (by (with_reducible repeat (first | apply Kd.N_alloc | apply Kd.N_drewN | apply Kd.N_drew)); exact HO623.out) (Kd.R_base ho0) hb); have HO631 := Aside0.mk (Kd.R_lower (Kd.R_new' (Kd.R_newM (M := fun k_ => (w.heap.size ≤ k_)) ho0 (sz_ HB) (fun k_ h_ => h_)) (lt_ HO626)) (sz_ HB)); replace HO626 := re_ HO626 ho0 hb; replace BK601 := kl_ BK601 hb; replace BK602 := kl_ BK602 hb; replace BK603 := kl_ BK603 hb; replace HB := ss_ HB hb; clear hb ho0; obtain ⟨Ao63, co63, eo63⟩ := Kd.R_slice HO631.out; subst eo63; have hz64 := cz3_ BK603))
       refine bodyPost_ret (results_ct rfl _ _ gb603 31 #[.slice Ao63 t629.length co63, .int .i64 t632, .string t633] (0, 0) _ rfl (by exact kq_ BK603) Try.underlying31 rfl (by kernel_rfl)) rfl ?_
       exact ⟨_, e2_, by (with_reducible repeat (first | apply Kd.R_alloc | apply Kd.R_drewN | apply Kd.R_drew)); exact Kd.R_mono (Kd.R_far (p := ⟨gb603, 2, none⟩) (Kd.R_far (p := ⟨gb603, 1, none⟩) (Kd.R_far (p := ⟨gb603, 0, none⟩) (Kd.R_types HO631.out BK603.out (by decide)) (fun _ hk => hk.2) (.slice Ao63 t629.length co63)) (fun _ hk => hk.2) (.int .i64 t632)) (fun _ hk => hk.2) (.string t633)) (fun _ hk => hk.1.1.1), bw_ HB⟩
      ·have c46b0 : (!(t627 == a2_0) || (!(t628.toList == a2_1.toList))) = false := by simpa using c46
       clear c46
       replace H := so4_ H; obtain ⟨rfl, rfl, rfl, rfl⟩ := H
       have hnb65 := NB602_601.out
       have hnc65 := NB601_602.out
       have hnb66 := NB602_603.out
       have hnc66 := NB603_602.out
       have hz67 := cz2_ BK602
       try go_wp2_with (first | ((with_reducible refine gq_ 22 31 ?_); refine gc_ 31 Try.func22 (impl_IsSigned.calls kj4 _ _ l1 a2_0 a2_1 true _ (cb_ HR1 HB) HC1.out A31.out) ?_; rintro e w68 ⟨rfl, hb⟩; refine ⟨_, rfl, ?_⟩; replace HO_3 := Aside0.mk (Kd.V_below (by (with_reducible repeat (first | apply Kd.V_alloc | apply Kd.V_drewN | apply Kd.V_drew)); exact HO_3.out) hb); replace HO_602000 := Aside0.mk (Kd.V_below (by (with_reducible repeat (first | apply Kd.V_alloc | apply Kd.V_drewN | apply Kd.V_drew)); exact HO_602000.out) hb); replace BK601 := kl_ BK601 hb; replace BK602 := kl_ BK602 hb; replace BK603 := kl_ BK603 hb; replace HB := ss_ HB hb; clear hb; have hnb69 := NB601_603.out; have hnc69 := NB603_601.out; have hz70 := cz3_ BK601) | ((with_reducible refine gd_ 44 ?_); (try (refine gate_guard (by rfl) ?_; dsimp only)); refine Kd.N_lit (Kd.slice 9 Kd.string) _ 24 ?hg (N' := 44) ?hd (xs := ([l0_0, l3] : List (List ByteArray))) (inner := [.slice A0_0 l0_0.length c0_0, .slice A3 l3.length c3]) (ok := (fun k_ => ((P0_0_ k_ ∨ P3_ k_) ∨ w.heap.size ≤ k_) ∧ k_ ≠ gb601 ∧ k_ ≠ gb602 ∧ k_ ≠ gb603)) (okp := (fun k_ => ((P0_0_ k_ ∨ P3_ k_) ∨ w.heap.size ≤ k_) ∧ k_ ≠ gb601 ∧ k_ ≠ gb602 ∧ k_ ≠ gb603)) ?hr ?hp (fun _ hk => hk) ((show ∀ k_, w68.heap.size ≤ k_ → (fun k_ => ((P0_0_ k_ ∨ P3_ k_) ∨ w.heap.size ≤ k_) ∧ k_ ≠ gb601 ∧ k_ ≠ gb602 ∧ k_ ≠ gb603) k_ from fun k_ hk => ⟨(.inr (Nat.le_trans (sz_ HB) hk)), Kd.freshB (kb_ BK601.out) k_ hk, Kd.freshB (kb_ BK602.out) k_ hk, Kd.freshB (kb_ BK603.out) k_ hk⟩) _ (Nat.le_refl _)) (Below.refl _ _) (Nat.le_refl _) (by simp) ?_; (case hd => rfl); (case hg => rfl); (case hr => first | (go_simp; done) | (go_simp; rfl)); (case hp => exact (Reps.one (show Kd.FK (Kd.slice 9 Kd.string) _ _ l0_0 [.slice A0_0 l0_0.length c0_0] from (Kd.FK_slice_mk (Kd.V_reads' (Kd.V_mono (ok' := (fun k_ => ((P0_0_ k_ ∨ P3_ k_) ∨ w.heap.size ≤ k_) ∧ k_ ≠ gb601 ∧ k_ ≠ gb602 ∧ k_ ≠ gb603)) (HO_602000.out) (fun k_ hk => ⟨hk.1, ⟨hk.2.1, ⟨hk.2.2.1, hk.2.2.2⟩⟩⟩))).2.1 (Kd.V_F (Kd.V_mono (ok' := (fun k_ => ((P0_0_ k_ ∨ P3_ k_) ∨ w.heap.size ≤ k_) ∧ k_ ≠ gb601 ∧ k_ ≠ gb602 ∧ k_ ≠ gb603)) (HO_602000.out) (fun k_ hk => ⟨hk.1, ⟨hk.2.1, ⟨hk.2.2.1, hk.2.2.2⟩⟩⟩))))) (Reps.one (show Kd.FK (Kd.slice 9 Kd.string) _ _ l3 [.slice A3 l3.length c3] from (Kd.FK_slice_mk (Kd.V_reads' (Kd.V_mono (ok' := (fun k_ => ((P0_0_ k_ ∨ P3_ k_) ∨ w.heap.size ≤ k_) ∧ k_ ≠ gb601 ∧ k_ ≠ gb602 ∧ k_ ≠ gb603)) (HO_3.out) (fun k_ hk => ⟨hk.1, ⟨hk.2.1, ⟨hk.2.2.1, hk.2.2.2⟩⟩⟩))).2.1 (Kd.V_F (Kd.V_mono (ok' := (fun k_ => ((P0_0_ k_ ∨ P3_ k_) ∨ w.heap.size ≤ k_) ∧ k_ ≠ gb601 ∧ k_ ≠ gb602 ∧ k_ ≠ gb603)) (HO_3.out) (fun k_ hk => ⟨hk.1, ⟨hk.2.1, ⟨hk.2.2.1, hk.2.2.2⟩⟩⟩))))) (Reps.none _ _)))); intro v622 w71 ho72 hb hg_ hnew_; clear hg_ hnew_; (first | rw [← Ny621.out] at ho72 | (simp only [Int.reduceToNat] at ho72; rw [← Ny621.out] at ho72)); replace HO_3 := Aside0.mk (Kd.V_elder' (by (with_reducible repeat (first | apply Kd.V_alloc | apply Kd.V_drewN | apply Kd.V_drew)); exact HO_3.out) (Kd.N_base ho72) hb); replace HO_602000 := Aside0.mk (Kd.V_elder' (by (with_reducible repeat (first | apply Kd.V_alloc | apply Kd.V_drewN | apply Kd.V_drew)); exact HO_602000.out) (Kd.N_base ho72) hb); have HO623 := Aside0.mk (Kd.N_lower ho72 (sz_ HB)); replace BK601 := kl_ BK601 hb; replace BK602 := kl_ BK602 hb; replace BK603 := kl_ BK603 hb; replace HB := ss_ HB hb; clear hb ho72; obtain ⟨Ao73, co73, eo73⟩ := Kd.N_slice HO623.out; subst eo73) | ((with_reducible refine gq_ 106 45 ?_); refine gc_ 45 Try.func106 (slices_Concat_string_string.calls kj4 _ _ y621 t624 _ (cr_ (Kd.N_reads' HO623.out).2.2) ((Kd.N_reads' HO623.out).2.1) A44.out) ?_; rintro e w74 ⟨v625, rfl, ho0, hb⟩; refine ⟨_, rfl, ?_⟩; replace HO_3 := Aside0.mk (Kd.V_elder' (by (with_reducible repeat (first | apply Kd.V_alloc | apply Kd.V_drewN | apply Kd.V_drew)); exact HO_3.out) (Kd.R_base ho0) hb); replace HO_602000 := Aside0.mk (Kd.V_elder' (by (with_reducible repeat (first | apply Kd.V_alloc | apply Kd.V_drewN | apply Kd.V_drew)); exact HO_602000.out) (Kd.R_base ho0) hb); replace HO623 := Aside0.mk (Kd.N_elder' (by (with_reducible repeat (first | apply Kd.N_alloc | apply Kd.N_drewN | apply Kd.N_drew)); exact HO623.out) (Kd.R_base ho0) hb); have HO626 := Aside0.mk (Kd.R_lower (Kd.R_newM (M := fun k_ => (w.heap.size ≤ k_)) ho0 (sz_ HB) (fun k_ h_ => h_)) (sz_ HB)); replace BK601 := kl_ BK601 hb; replace BK602 := kl_ BK602 hb; replace BK603 := kl_ BK603 hb; replace HB := ss_ HB hb; clear hb ho0))
       replace HO_3 := Aside0.mk (Kd.V_drew HO_3.out)
       replace HO_602000 := Aside0.mk (Kd.V_drew HO_602000.out)
       replace HO623 := Aside0.mk (Kd.N_drew HO623.out)
       replace HO626 := Aside0.mk (Kd.R_drew HO626.out)
       replace BK601 := Aside0.mk (blk_drew BK601.out)
       replace BK602 := Aside0.mk (blk_drew BK602.out)
       replace BK603 := Aside0.mk (blk_drew BK603.out)
       replace HB := Aside0.mk (below_drew1 HB.out)
       obtain ⟨Ao76, co76, eo76⟩ := Kd.R_slice HO626.out
       (first | subst eo76 | (injection eo76 with f1_ f2_ f3_; have f4_ := f1_.symm; have f5_ := f3_.symm; clear f1_ f2_ f3_; subst f4_; subst f5_))
       refine start_ (n := 4) (S := fun w' => w'.cell? ⟨gb602, 0, none⟩ = some (.int .i64 a2_0) ∧ w'.cell? ⟨gb602, 1, none⟩ = some (.string a2_1)) (ds := []) (lz_ 4 0) (by kernel_rfl) rfl rfl ⟨bc0_ BK602.out, bc1_ BK602.out⟩ (fun hHeld => ?_)
       generalize w74.drew = w75 at HO_3 HO_602000 HO623 HO626 BK601 BK602 BK603 HB hHeld ⊢
       refine pk_ 0 46 1 ?_
       refine tk_ 2 48 5 ?_
       refine one_ (i := 1) (N := some 47) (lz_ 4 7) rfl rfl (by kernel_rfl) (by decide) (fun K hK => ?_)
       refine gf_ Try.func12 (impl_HeadOf.calls kj4 _ _ t624 t627 t628 _ (ch_ HO626) (cl_ HO626) A45.out) ?_
       rintro e w77 ⟨rfl, hb⟩
       refine ⟨_, rfl, ?_⟩
       replace HO_3 := Aside0.mk (Kd.V_below (by (with_reducible repeat (first | apply Kd.V_alloc | apply Kd.V_drewN | apply Kd.V_drew)); exact HO_3.out) hb)
       replace HO_602000 := Aside0.mk (Kd.V_below (by (with_reducible repeat (first | apply Kd.V_alloc | apply Kd.V_drewN | apply Kd.V_drew)); exact HO_602000.out) hb)
       replace HO623 := Aside0.mk (Kd.N_below (by (with_reducible repeat (first | apply Kd.N_alloc | apply Kd.N_drewN | apply Kd.N_drew)); exact HO623.out) hb)
       replace HO626 := rb_ HO626 hb
       replace BK601 := kl_ BK601 hb
       replace BK602 := kl_ BK602 hb
       replace BK603 := kl_ BK603 hb
       replace HB := ss_ HB hb
       clear hb
       refine hK.out _ _ ⟨bc0_ BK602.out, bc1_ BK602.out⟩ (fun hHeld => ?_)
       clear hK K
       refine no_ 47 ?_
       refine pk_ 3 49 15 ?_
       refine done_ (by kernel_rfl) ?_
       have hz78 := cz2_ BK602
       have hz79 := cz3_ BK603
       try go_wp2
       refine bodyPost_ret (results_ct rfl _ _ gb603 31 #[.slice Ao76 t624.length co76, .int .i64 a2_0, .string a2_1] (0, 0) _ rfl (by exact kq_ BK603) Try.underlying31 rfl (by kernel_rfl)) rfl ?_
       exact ⟨_, e2_, by (with_reducible repeat (first | apply Kd.R_alloc | apply Kd.R_drewN | apply Kd.R_drew)); exact Kd.R_mono (Kd.R_far (p := ⟨gb603, 2, none⟩) (Kd.R_far (p := ⟨gb603, 1, none⟩) (Kd.R_far (p := ⟨gb603, 0, none⟩) (Kd.R_types HO626.out BK603.out (by decide)) (fun _ hk => hk.2) (.slice Ao76 t624.length co76)) (fun _ hk => hk.2) (.int .i64 a2_0)) (fun _ hk => hk.2) (.string a2_1)) (fun _ hk => hk.1.1), bw_ HB⟩
    ·replace H := bi_ H; obtain ⟨⟨t616, t619, t620⟩, A80, H⟩ := H
     dsimp only at H
     replace H := so4_ H; obtain ⟨rfl, rfl, rfl, rfl⟩ := H
     have hnb81 := NB602_601.out
     have hnc81 := NB601_602.out
     have hnb82 := NB602_603.out
     have hnc82 := NB603_602.out
     have hz83 := cz2_ BK602
     go_wp2_with (first | ((with_reducible refine gq_ 22 31 ?_); refine gc_ 31 Try.func22 (impl_IsSigned.calls kj4 _ _ l1 a2_0 a2_1 false _ (cb_ HR1 HB) HC1.out A31.out) ?_; rintro e w84 ⟨rfl, hb⟩; refine ⟨_, rfl, ?_⟩; replace HO_3 := Aside0.mk (Kd.V_below (by (with_reducible repeat (first | apply Kd.V_alloc | apply Kd.V_drewN | apply Kd.V_drew)); exact HO_3.out) hb); replace HO_602000 := Aside0.mk (Kd.V_below (by (with_reducible repeat (first | apply Kd.V_alloc | apply Kd.V_drewN | apply Kd.V_drew)); exact HO_602000.out) hb); replace BK601 := kl_ BK601 hb; replace BK602 := kl_ BK602 hb; replace BK603 := kl_ BK603 hb; replace HB := ss_ HB hb; clear hb; have hnb85 := NB601_603.out; have hnc85 := NB603_601.out; have hz86 := cz3_ BK601) | ((with_reducible refine gq_ 63 34 ?_); refine gc_ 34 Try.func63 (impl_copyLog.calls _ _ l0_0 a0_1 a0_2 t616 t619 t620 _ (cr_ (Kd.V_reads' HO_602000.out).2.2) ((Kd.V_reads' HO_602000.out).2.1) A80.out) ?_; rintro e w87 ⟨v617, rfl, ho0, hb⟩; refine ⟨_, rfl, ?_⟩; replace HO_3 := Aside0.mk (Kd.V_elder' (by (with_reducible repeat (first | apply Kd.V_alloc | apply Kd.V_drewN | apply Kd.V_drew)); exact HO_3.out) (Kd.R_base ho0) hb); replace HO_602000 := Aside0.mk (Kd.V_elder' (by (with_reducible repeat (first | apply Kd.V_alloc | apply Kd.V_drewN | apply Kd.V_drew)); exact HO_602000.out) (Kd.R_base ho0) hb); have HO618 := Aside0.mk (Kd.R_lower (Kd.R_newM (M := fun k_ => (w.heap.size ≤ k_)) ho0 (sz_ HB) (fun k_ h_ => h_)) (sz_ HB)); replace BK601 := kl_ BK601 hb; replace BK602 := kl_ BK602 hb; replace BK603 := kl_ BK603 hb; replace HB := ss_ HB hb; clear hb ho0; obtain ⟨Ao88, co88, eo88⟩ := Kd.R_slice HO618.out; subst eo88; have hz89 := cz3_ BK603))
     refine bodyPost_ret (results_ct rfl _ _ gb603 31 #[.slice Ao88 t616.length co88, .int .i64 t619, .string t620] (0, 0) _ rfl (by exact kq_ BK603) Try.underlying31 rfl (by kernel_rfl)) rfl ?_
     exact ⟨_, e2_, by (with_reducible repeat (first | apply Kd.R_alloc | apply Kd.R_drewN | apply Kd.R_drew)); exact Kd.R_mono (Kd.R_far (p := ⟨gb603, 2, none⟩) (Kd.R_far (p := ⟨gb603, 1, none⟩) (Kd.R_far (p := ⟨gb603, 0, none⟩) (Kd.R_types HO618.out BK603.out (by decide)) (fun _ hk => hk.2) (.slice Ao88 t616.length co88)) (fun _ hk => hk.2) (.int .i64 t619)) (fun _ hk => hk.2) (.string t620)) (fun _ hk => hk.1.1), bw_ HB⟩
end Go.Proofs.Ytjnnglphdaemaaa.Q
end

section
-- Written by a program of this session (wip/tools/pp.sh) over the print of the kit.
namespace Go.Proofs.Ytjnnglphdaemaaa.Q
open Go.RowKit Go.Proofs.YtjnnglphdaemaaaW.PrintWords Go.Proofs.YtjnnglphdaemaaaW.PrintLast Go.Proofs.YtjnnglphdaemaaaW.PrintMore
attribute [local go_sem] max2_int min2_int max_two min_two max_three min_three max_four min_four   -- for this text's walks alone
set_option linter.unusedVariables false
set_option linter.unusedSimpArgs false
def impl_Extend.f (k : Nat) (l0_0 : List ByteArray) (a0_1 : Int) (a0_2 : ByteArray) (l1 : List (S28)) (a2_0 : Int) (a2_1 : ByteArray) (l3 : List ByteArray) : Option (List ByteArray × Int × ByteArray × Int) := (impl_LogOk.f k l0_0 a0_1 a0_2).bind fun t604 => (if t604 = true then ((impl_extend.f k l0_0 a0_1 a0_2 l1 a2_0 a2_1 l3).bind fun bt605 => (some (bt605.1, bt605.2.1, bt605.2.2.1, bt605.2.2.2))) else ((impl_copyLog.f l0_0 a0_1 a0_2).bind fun bt611 => (some (bt611.1, bt611.2.1, bt611.2.2, 1))))
theorem impl_Extend.mono : ∀ a0 a1 a2 a3 a4 a5 a6 k, LeO (impl_Extend.f k a0 a1 a2 a3 a4 a5 a6) (impl_Extend.f (k + 1) a0 a1 a2 a3 a4 a5 a6) := by
 intro a0 a1 a2 a3 a4 a5 a6 k
 unfold impl_Extend.f
 repeat' (with_reducible first | exact LeO.refl _ | exact LeO.none _ | apply impl_LogOk.mono | apply impl_extend.mono | apply LeO.ite | refine LeO.bind ?_ fun _ => ?_)
set_option maxHeartbeats 8000000 in
set_option maxRecDepth 100000 in
theorem impl_Extend.calls (k : Nat) (A0_0 : Option Addr) (c0_0 : Nat) (l0_0 : List ByteArray) (a0_1 : Int) (a0_2 : ByteArray) (A1 : Option Addr) (c1 : Nat) (l1 : List (S28)) (a2_0 : Int) (a2_1 : ByteArray) (A3 : Option Addr) (c3 : Nat) (l3 : List ByteArray) (r1 : List ByteArray) (r2 : Int) (r3 : ByteArray) (r4 : Int) (w : World) (hr0_0 : Kd.C Kd.string w A0_0 l0_0.length l0_0) (hc0_0 : l0_0.length ≤ c0_0) (hr1 : Kd.C k28 w A1 l1.length l1) (hc1 : l1.length ≤ c1) (hr3 : Kd.C Kd.string w A3 l3.length l3) (hc3 : l3.length ≤ c3) (h : impl_Extend.f k l0_0 a0_1 a0_2 l1 a2_0 a2_1 l3 = some (r1, r2, r3, r4)) :
  Calls Try.prog 13 #[.agg #[.slice A0_0 l0_0.length c0_0, .int .i64 a0_1, .string a0_2], .slice A1 l1.length c1, .agg #[.int .i64 a2_0, .string a2_1], .slice A3 l3.length c3] w fun e w' => ∃ v0_ : Value, e = .returned (.tuple #[.agg #[v0_, .int .i64 r2, .string r3], .int .i64 r4]) ∧ Kd.R Kd.string 9 w' w.heap.size (fun _ => True) v0_ r1 ∧ Below w.heap.size w w' := by
 have hu31 := Try.underlying31
 have hu28 := Try.underlying28
 have HR0_0 := Aside0.mk hr0_0
 have HC0_0 := Aside0.mk hc0_0
 clear hr0_0 hc0_0
 have HR1 := Aside0.mk hr1
 have HC1 := Aside0.mk hc1
 clear hr1 hc1
 have HR3 := Aside0.mk hr3
 have HC3 := Aside0.mk hc3
 clear hr3 hc3
 have HB := Aside0.mk (Below.refl w.heap.size w)
 have H : ((impl_LogOk.f k l0_0 a0_1 a0_2).bind fun t604 => (if t604 = true then ((impl_extend.f k l0_0 a0_1 a0_2 l1 a2_0 a2_1 l3).bind fun bt605 => (some (bt605.1, bt605.2.1, bt605.2.2.1, bt605.2.2.2))) else ((impl_copyLog.f l0_0 a0_1 a0_2).bind fun bt611 => (some (bt611.1, bt611.2.1, bt611.2.2, 1))))) = some (r1, r2, r3, r4) := h
 clear h
 replace H := bi_ H; obtain ⟨t604, A5, H⟩ := H
 replace H := itb_ H; obtain ⟨rfl, H⟩ | ⟨rfl, H⟩ := H
 ·replace H := bi_ H; obtain ⟨⟨t605, t608, t609, t610⟩, A7, H⟩ := H
  dsimp only at H
  replace H := so4_ H; obtain ⟨rfl, rfl, rfl, rfl⟩ := H
  go_enter Try.func13, Try.ntmps13
  go_wp2_with (first | ((with_reducible refine gd_ 4 ?_); refine bx_ 4 31 #[.slice A0_0 l0_0.length c0_0, .int .i64 a0_1, .string a0_2] ?_; intro gb601 hg w8 hbox hb; have BK601 := Aside0.mk hbox; have GW601 := gg_ hg HB; have GE601 := GW601; replace HB := ss_ HB hb; clear hb hbox hg) | ((with_reducible refine gd_ 6 ?_); refine bx_ 6 28 #[.int .i64 a2_0, .string a2_1] ?_; intro gb602 hg w9 hbox hb; have BK602 := Aside0.mk hbox; have GW602 := gg_ hg HB; have GE602 := GW602; replace HB := ss_ HB hb; have NB601_602 := nla_ hg BK601; have NB602_601 := nga_ hg BK601; replace BK601 := kl_ BK601 hb; clear hb hbox hg) | ((with_reducible refine gd_ 8 ?_); refine bx_ 8 31 #[.slice none 0 0, .int .i64 0, .string (⟨#[]⟩ : ByteArray)] ?_; intro gb603 hg w10 hbox hb; have BK603 := Aside0.mk hbox; have GW603 := gg_ hg HB; have GE603 := GW603; replace HB := ss_ HB hb; have NB601_603 := nla_ hg BK601; have NB603_601 := nga_ hg BK601; replace BK601 := kl_ BK601 hb; have NB602_603 := nla_ hg BK602; have NB603_602 := nga_ hg BK602; replace BK602 := kl_ BK602 hb; clear hb hbox hg; have hnb11 := NB601_602.out; have hnc11 := NB602_601.out; have hnb12 := NB601_603.out; have hnc12 := NB603_601.out; have hz13 := cz3_ BK601) | ((with_reducible refine gq_ 17 11 ?_); refine gc_ 11 Try.func17 (impl_LogOk.calls k _ _ l0_0 a0_1 a0_2 true _ (cb_ HR0_0 HB) HC0_0.out A5.out) ?_; rintro e w14 ⟨rfl, hb⟩; refine ⟨_, rfl, ?_⟩; replace BK601 := kl_ BK601 hb; replace BK602 := kl_ BK602 hb; replace BK603 := kl_ BK603 hb; replace HB := ss_ HB hb; clear hb; have hz15 := cz3_ BK601; have hnb16 := NB602_603.out; have hnc16 := NB603_602.out; have hz17 := cz2_ BK602) | ((with_reducible refine gq_ 64 19 ?_); refine gc_ 19 Try.func64 (impl_extend.calls k (fun k_ => k_ < w.heap.size) _ _ l0_0 a0_1 a0_2 _ _ l1 a2_0 a2_1 (fun k_ => k_ < w.heap.size) _ _ l3 t605 t608 t609 t610 _ (Kd.V_mk HC0_0.out (Kd.F_below (Kd.C_F Kd.heap_string HR0_0.out) (bw_ HB))) (cb_ HR1 HB) HC1.out (Kd.V_mk HC3.out (Kd.F_below (Kd.C_F Kd.heap_string HR3.out) (bw_ HB))) A7.out) ?_; rintro e w18 ⟨v606, rfl, ho0, hb⟩; refine ⟨_, rfl, ?_⟩; have HO607 := Aside0.mk (Kd.R_lower (Kd.R_mono (ok' := fun k_ => True) ho0 (fun _ hk_ => trivial)) (sz_ HB)); replace BK601 := kl_ BK601 hb; replace BK602 := kl_ BK602 hb; replace BK603 := kl_ BK603 hb; replace HB := ss_ HB hb; clear hb ho0; obtain ⟨Ao19, co19, eo19⟩ := Kd.R_slice HO607.out; subst eo19; have hz20 := cz3_ BK603))
  refine bodyPost_ret (results_ct rfl _ _ gb603 31 #[.slice Ao19 t605.length co19, .int .i64 t608, .string t609] (0, 0) _ rfl (by exact kq_ BK603) Try.underlying31 rfl (by kernel_rfl)) rfl ?_
  exact ⟨_, e2_, by (with_reducible repeat (first | apply Kd.R_alloc | apply Kd.R_drewN | apply Kd.R_drew)); exact Kd.R_mono (Kd.R_far (p := ⟨gb603, 2, none⟩) (Kd.R_far (p := ⟨gb603, 1, none⟩) (Kd.R_far (p := ⟨gb603, 0, none⟩) (Kd.R_types HO607.out BK603.out (by decide)) (fun _ hk => hk.2) (.slice Ao19 t605.length co19)) (fun _ hk => hk.2) (.int .i64 t608)) (fun _ hk => hk.2) (.string t609)) (fun _ hk => trivial), bw_ HB⟩
 ·replace H := bi_ H; obtain ⟨⟨t611, t614, t615⟩, A21, H⟩ := H
  dsimp only at H
  replace H := so4_ H; obtain ⟨rfl, rfl, rfl, rfl⟩ := H
  go_enter Try.func13, Try.ntmps13
  go_wp2_with (first | ((with_reducible refine gd_ 4 ?_); refine bx_ 4 31 #[.slice A0_0 l0_0.length c0_0, .int .i64 a0_1, .string a0_2] ?_; intro gb601 hg w22 hbox hb; have BK601 := Aside0.mk hbox; have GW601 := gg_ hg HB; have GE601 := GW601; replace HB := ss_ HB hb; clear hb hbox hg) | ((with_reducible refine gd_ 6 ?_); refine bx_ 6 28 #[.int .i64 a2_0, .string a2_1] ?_; intro gb602 hg w23 hbox hb; have BK602 := Aside0.mk hbox; have GW602 := gg_ hg HB; have GE602 := GW602; replace HB := ss_ HB hb; have NB601_602 := nla_ hg BK601; have NB602_601 := nga_ hg BK601; replace BK601 := kl_ BK601 hb; clear hb hbox hg) | ((with_reducible refine gd_ 8 ?_); refine bx_ 8 31 #[.slice none 0 0, .int .i64 0, .string (⟨#[]⟩ : ByteArray)] ?_; intro gb603 hg w24 hbox hb; have BK603 := Aside0.mk hbox; have GW603 := gg_ hg HB; have GE603 := GW603; replace HB := ss_ HB hb; have NB601_603 := nla_ hg BK601; have NB603_601 := nga_ hg BK601; replace BK601 := kl_ BK601 hb; have NB602_603 := nla_ hg BK602; have NB603_602 := nga_ hg BK602; replace BK602 := kl_ BK602 hb; clear hb hbox hg; have hnb25 := NB601_602.out; have hnc25 := NB602_601.out; have hnb26 := NB601_603.out; have hnc26 := NB603_601.out; have hz27 := cz3_ BK601) | ((with_reducible refine gq_ 17 11 ?_); refine gc_ 11 Try.func17 (impl_LogOk.calls k _ _ l0_0 a0_1 a0_2 false _ (cb_ HR0_0 HB) HC0_0.out A5.out) ?_; rintro e w28 ⟨rfl, hb⟩; refine ⟨_, rfl, ?_⟩; replace BK601 := kl_ BK601 hb; replace BK602 := kl_ BK602 hb; replace BK603 := kl_ BK603 hb; replace HB := ss_ HB hb; clear hb; have hz29 := cz3_ BK601) | ((with_reducible refine gq_ 63 14 ?_); refine gc_ 14 Try.func63 (impl_copyLog.calls _ _ l0_0 a0_1 a0_2 t611 t614 t615 _ (cb_ HR0_0 HB) HC0_0.out A21.out) ?_; rintro e w30 ⟨v612, rfl, ho0, hb⟩; refine ⟨_, rfl, ?_⟩; have HO613 := Aside0.mk (Kd.R_lower ho0 (sz_ HB)); replace BK601 := kl_ BK601 hb; replace BK602 := kl_ BK602 hb; replace BK603 := kl_ BK603 hb; replace HB := ss_ HB hb; clear hb ho0; obtain ⟨Ao31, co31, eo31⟩ := Kd.R_slice HO613.out; subst eo31; have hnb32 := NB603_602.out; have hnc32 := NB602_603.out; have hz33 := cz3_ BK603))
  refine bodyPost_ret (results_ct rfl _ _ gb603 31 #[.slice Ao31 t611.length co31, .int .i64 t614, .string t615] (0, 0) _ rfl (by exact kq_ BK603) Try.underlying31 rfl (by kernel_rfl)) rfl ?_
  exact ⟨_, e2_, by (with_reducible repeat (first | apply Kd.R_alloc | apply Kd.R_drewN | apply Kd.R_drew)); exact Kd.R_mono (Kd.R_far (p := ⟨gb603, 2, none⟩) (Kd.R_far (p := ⟨gb603, 1, none⟩) (Kd.R_far (p := ⟨gb603, 0, none⟩) (Kd.R_types HO613.out BK603.out (by decide)) (fun _ hk => hk.2) (.slice Ao31 t611.length co31)) (fun _ hk => hk.2) (.int .i64 t614)) (fun _ hk => hk.2) (.string t615)) (fun _ hk => trivial), bw_ HB⟩
end Go.Proofs.Ytjnnglphdaemaaa.Q
end

section
/- Extend, the program's and the reference's: they return the same. -/
namespace Go.Proofs.Ytjnnglphdaemaaa.Q
open Go.RowKit Go.Proofs.Ytjnnglphdaemaaa.B Go.Proofs.YtjnnglphdaemaaaW.PrintWords
set_option linter.unusedVariables false
/-- Whether a head is the one of a list. -/
def isHead (l : List ByteArray) (a : Int) (z : ByteArray) : Bool := a == (headOf l).1 && (z.toList == (headOf l).2.toList)
/-- What Extend of a right log comes to, and its code. -/
def extOf (t : List IHead) (l : List ByteArray) (n : Int) (s : ByteArray) (a : Int) (z : ByteArray) (x : List ByteArray) : List ByteArray × Int × ByteArray × Int :=
  if (headOk a z && (a == ((l.length + x.length : Nat) : Int))) = true then
    (if hasHead t a z = true then (if x.length = 0 then (l, n, s, 3) else (if isHead (l ++ x) a z = true then (l ++ x, a, z, 0) else (l, n, s, 4))) else (l, n, s, 2))
  else (l, n, s, 1)
def extendOf (t : List IHead) (l : List ByteArray) (n : Int) (s : ByteArray) (a : Int) (z : ByteArray) (x : List ByteArray) : List ByteArray × Int × ByteArray × Int :=
  if logOk l n s = true then extOf t l n s a z x else (l, n, s, 1)
theorem ne_head (a b : Int) (u v : List UInt8) : (!(a == b) || !(u == v)) = !(a == b && (u == v)) := by simp
theorem head_sym (a b : Int) (u v : List UInt8) : (a == b && (u == v)) = (b == a && (v == u)) := by rw [Bool.beq_comm (a := a), Bool.beq_comm (a := u)]
theorem extend_j0I (t : List IHead) (l : List ByteArray) (n : Int) (s : ByteArray) (a : Int) (z : ByteArray) (x : List ByteArray) (ht : t.length ≤ 9223372036854775807) (hs : ∀ y ∈ l ++ x, y.size ≤ bigB) (hl : l.length + x.length ≤ 1000000000) (hf : Bool) :
    Ev (fun k => impl_extend.j0 k t x hf l n s a z) (if hf = true then (l, n, s, 1) else (if hasHead t a z = true then (if x.length = 0 then (l, n, s, 3) else (if isHead (l ++ x) a z = true then (l ++ x, a, z, 0) else (l, n, s, 4))) else (l, n, s, 2))) := by
  have hc := impl_copyLog_eq l n s (by omega)
  refine Ev.step (fun k => by simp only [impl_extend.j0]; rfl) ?_
  cases hf with
  | true => exact Ev.pos rfl (Ev.bind (Ev.const hc) (Ev.now _))
  | false =>
    refine Ev.neg (by simp) (Ev.bind (impl_IsSigned_ev t a z ht) ?_)
    rw [if_neg (by simp)]
    by_cases h1 : hasHead t a z = true
    · rw [if_pos h1]
      refine Ev.pos h1 ?_
      by_cases h2 : x.length = 0
      · rw [if_pos h2]
        exact Ev.pos (by omega) (Ev.bind (Ev.const hc) (Ev.now _))
      · rw [if_neg h2]
        refine Ev.neg (by omega) (Ev.bind (concat_ev l x hl (by omega)) (Ev.bind (impl_HeadOf_ev (l ++ x) hs) ?_))
        rw [ne_head, head_sym]
        by_cases h3 : isHead (l ++ x) a z = true
        · rw [if_pos h3]
          exact Ev.neg (by unfold isHead at h3; rw [h3]; simp) (Ev.now _)
        · rw [if_neg h3]
          exact Ev.pos (by unfold isHead at h3; rw [Bool.eq_false_iff.mpr h3]; rfl) (Ev.bind (Ev.const hc) (Ev.now _))
    · rw [if_neg h1]
      exact Ev.neg h1 (Ev.bind (Ev.const hc) (Ev.now _))
theorem ext_form (t : List IHead) (l : List ByteArray) (n : Int) (s : ByteArray) (a : Int) (z : ByteArray) (x : List ByteArray) :
    extOf t l n s a z x = (if headOk a z = true then (if (a != ((l.length + x.length : Nat) : Int)) = true then (l, n, s, 1) else (if hasHead t a z = true then (if x.length = 0 then (l, n, s, 3) else (if isHead (l ++ x) a z = true then (l ++ x, a, z, 0) else (l, n, s, 4))) else (l, n, s, 2))) else (l, n, s, 1)) := by
  unfold extOf
  cases headOk a z <;> by_cases h : a = ((l.length + x.length : Nat) : Int) <;> simp [h]
theorem impl_extend_ev (t : List IHead) (l : List ByteArray) (n : Int) (s : ByteArray) (a : Int) (z : ByteArray) (x : List ByteArray) (ht : t.length ≤ 9223372036854775807) (hs : ∀ y ∈ l ++ x, y.size ≤ bigB) (hl : l.length + x.length ≤ 1000000000) :
    Ev (fun k => impl_extend.f k l n s t a z x) (extOf t l n s a z x) := by
  unfold impl_extend.f
  rw [ext_form]
  refine Ev.bind (Ev.const (impl_HeadOk_eq a z)) ?_
  by_cases h1 : headOk a z = true
  · rw [if_pos h1, w64 (x := (l.length : Int) + (x.length : Int)) (by omega) (by omega)]
    exact Ev.pos h1 (extend_j0I t l n s a z x ht hs hl _)
  · rw [if_neg h1]
    exact Ev.neg h1 (Ev.one (extend_j0I t l n s a z x ht hs hl true) (by rw [if_pos rfl]))
theorem impl_Extend_ev (t : List IHead) (l : List ByteArray) (n : Int) (s : ByteArray) (a : Int) (z : ByteArray) (x : List ByteArray) (ht : t.length ≤ 9223372036854775807) (hs : ∀ y ∈ l ++ x, y.size ≤ bigB) (hl : l.length + x.length ≤ 1000000000) :
    Ev (fun k => impl_Extend.f k l n s t a z x) (extendOf t l n s a z x) := by
  have hs0 : ∀ y ∈ l, y.size ≤ bigB := fun y hy => hs y (List.mem_append_left _ hy)
  unfold impl_Extend.f extendOf
  refine Ev.bind (impl_LogOk_ev l n s hs0) ?_
  by_cases h0 : logOk l n s = true
  · rw [if_pos h0]
    exact Ev.pos h0 (Ev.bind (impl_extend_ev t l n s a z x ht hs hl) (Ev.now _))
  · rw [if_neg h0]
    exact Ev.neg h0 (Ev.bind (Ev.const (impl_copyLog_eq l n s (by omega))) (Ev.now _))
end Go.Proofs.Ytjnnglphdaemaaa.Q
end

section
-- Written by a program of this session (wip/tools/pp.sh) over the print of the kit.
namespace Go.Proofs.Ytjnnglphdaemaaa.Q
open Go.RowKit Go.Proofs.YtjnnglphdaemaaaW.PrintWords Go.Proofs.YtjnnglphdaemaaaW.PrintLast Go.Proofs.YtjnnglphdaemaaaW.PrintMore
attribute [local go_sem] max2_int min2_int max_two min_two max_three min_three max_four min_four   -- for this text's walks alone
set_option linter.unusedVariables false
set_option linter.unusedSimpArgs false
def impl_copyStore.f (l0_0 : List ByteArray) (a0_1 : Int) (a0_2 : ByteArray) (l0_3 : List Int) (a0_4 : Int) : Option (List ByteArray × Int × ByteArray × List Int × Int) := (impl_copyLog.f l0_0 a0_1 a0_2).bind fun bt603 => ((slices_Clone_byte_byte.f l0_3).bind fun t608 => (some (bt603.1, bt603.2.1, bt603.2.2, t608, a0_4)))
def impl_copyStore.T1 : Bool × List (List Nat × List Nat) := (true, [([], []), ([0], [0]), ([1], [1]), ([], []), ([3], [3]), ([4, 2], [4]), ([], []), ([6], [6]), ([2, 5, 7], [2, 5, 7]), ([8, 5, 0, 1, 2, 3, 4, 5, 6, 7, 8], [8])])
def impl_copyStore.B1 : List Nat := [0, 1, 3, 0, 8, 31, 0, 64, 255, 511]
theorem impl_copyStore.tab1 : rtab .any (opsOf Try.f65 1) = impl_copyStore.T1 := by kernel_rfl
theorem impl_copyStore.bits1 : waitsOk impl_copyStore.T1.2 impl_copyStore.B1 = true := by kernel_rfl
set_option maxHeartbeats 8000000 in
set_option maxRecDepth 100000 in
theorem impl_copyStore.calls (A0_0 : Option Addr) (c0_0 : Nat) (l0_0 : List ByteArray) (a0_1 : Int) (a0_2 : ByteArray) (A0_3 : Option Addr) (c0_3 : Nat) (l0_3 : List Int) (a0_4 : Int) (r1 : List ByteArray) (r2 : Int) (r3 : ByteArray) (r4 : List Int) (r5 : Int) (w : World) (hr0_0 : Kd.C Kd.string w A0_0 l0_0.length l0_0) (hc0_0 : l0_0.length ≤ c0_0) (hr0_3 : Kd.C (Kd.int .u8) w A0_3 l0_3.length l0_3) (hc0_3 : l0_3.length ≤ c0_3) (h : impl_copyStore.f l0_0 a0_1 a0_2 l0_3 a0_4 = some (r1, r2, r3, r4, r5)) :
  Calls Try.prog 65 #[.agg #[.slice A0_0 l0_0.length c0_0, .int .i64 a0_1, .string a0_2, .slice A0_3 l0_3.length c0_3, .int .i64 a0_4]] w fun e w' => ∃ v0_ v3_ : Value, e = .returned (.agg #[v0_, .int .i64 r2, .string r3, v3_, .int .i64 r5]) ∧ Kd.R Kd.string 9 w' w.heap.size (fun _ => True) v0_ r1 ∧ Kd.R (Kd.int .u8) 5 w' w.heap.size (fun _ => True) v3_ r4 ∧ Below w.heap.size w w' := by
 have hu37 := Try.underlying37
 have hu31 := Try.underlying31
 have HR0_0 := Aside0.mk hr0_0
 have HC0_0 := Aside0.mk hc0_0
 clear hr0_0 hc0_0
 have HR0_3 := Aside0.mk hr0_3
 have HC0_3 := Aside0.mk hc0_3
 clear hr0_3 hc0_3
 have HB := Aside0.mk (Below.refl w.heap.size w)
 have H : ((impl_copyLog.f l0_0 a0_1 a0_2).bind fun bt603 => ((slices_Clone_byte_byte.f l0_3).bind fun t608 => (some (bt603.1, bt603.2.1, bt603.2.2, t608, a0_4)))) = some (r1, r2, r3, r4, r5) := h
 clear h
 replace H := bi_ H; obtain ⟨⟨t603, t606, t607⟩, A2, H⟩ := H
 dsimp only at H
 replace H := bi_ H; obtain ⟨t608, A3, H⟩ := H
 replace H := so5_ H; obtain ⟨rfl, rfl, rfl, rfl, rfl⟩ := H
 go_enter Try.func65, Try.ntmps65
 try go_wp2_with (first | ((with_reducible refine gd_ 1 ?_); refine bx_ 1 37 #[.slice A0_0 l0_0.length c0_0, .int .i64 a0_1, .string a0_2, .slice A0_3 l0_3.length c0_3, .int .i64 a0_4] ?_; intro gb601 hg w4 hbox hb; have BK601 := Aside0.mk hbox; have GW601 := gg_ hg HB; have GE601 := GW601; replace HB := ss_ HB hb; clear hb hbox hg) | ((with_reducible refine gd_ 2 ?_); refine bx_ 2 37 #[.slice none 0 0, .int .i64 0, .string (⟨#[]⟩ : ByteArray), .slice none 0 0, .int .i64 0] ?_; intro gb602 hg w5 hbox hb; have BK602 := Aside0.mk hbox; have GW602 := gg_ hg HB; have GE602 := GW602; replace HB := ss_ HB hb; have NB601_602 := nla_ hg BK601; have NB602_601 := nga_ hg BK601; replace BK601 := kl_ BK601 hb; clear hb hbox hg))
 replace BK601 := Aside0.mk (blk_drew BK601.out)
 replace BK602 := Aside0.mk (blk_drew BK602.out)
 replace HB := Aside0.mk (below_drew1 HB.out)
 refine start_ (n := 10) (S := fun w' => w'.cell? ⟨gb601, 0, none⟩ = some (.slice A0_0 l0_0.length c0_0) ∧ w'.cell? ⟨gb601, 1, none⟩ = some (.int .i64 a0_1) ∧ w'.cell? ⟨gb601, 2, none⟩ = some (.string a0_2) ∧ w'.cell? ⟨gb601, 3, none⟩ = some (.slice A0_3 l0_3.length c0_3) ∧ w'.cell? ⟨gb601, 4, none⟩ = some (.int .i64 a0_4)) (ds := []) (lz_ 10 0) (by kernel_rfl) rfl rfl ⟨bc0_ BK601.out, bc1_ BK601.out, bc2_ BK601.out, bc3_ BK601.out, bc4_ BK601.out⟩ (fun hHeld => ?_); refine with_tabW impl_copyStore.tab1 impl_copyStore.bits1 (fun HT_ HW_ => ?_)
 generalize w5.drew = w6 at BK601 BK602 HB hHeld ⊢
 refine pt_ 0 3 1 ?_
 refine pt_ 3 6 9 ?_
 refine pt_ 6 9 73 ?_
 refine tt_ 1 4 75 ?_
 refine tt_ 4 7 91 ?_
 refine tt_ 7 10 219 ?_
 refine one_ (i := 2) (N := some 5) (lz_ 10 223) rfl rfl (one_of HT_.out (by kernel_rfl)) (by decide) (fun K hK => ?_)
 refine gf_ Try.func63 (impl_copyLog.calls _ _ l0_0 a0_1 a0_2 t603 t606 t607 _ (cb_ HR0_0 HB) HC0_0.out A2.out) ?_
 rintro e w7 ⟨v604, rfl, ho0, hb⟩
 refine ⟨_, rfl, ?_⟩
 have HO605 := Aside0.mk (Kd.R_lower ho0 (sz_ HB))
 replace BK601 := kl_ BK601 hb
 replace BK602 := kl_ BK602 hb
 replace HB := ss_ HB hb
 clear hb ho0
 refine hK.out _ _ ⟨bc0_ BK601.out, bc1_ BK601.out, bc2_ BK601.out, bc3_ BK601.out, bc4_ BK601.out⟩ (fun hHeld => ?_)
 clear hK K
 refine no_ 5 ?_
 refine one_ (i := 5) (N := some 8) (lz_ 10 255) rfl rfl (one_of HT_.out (by kernel_rfl)) (by decide) (fun K hK => ?_)
 refine gf_ Try.func85 (slices_Clone_byte_byte.calls _ _ l0_3 t608 _ (cb_ HR0_3 HB) HC0_3.out A3.out) ?_
 rintro e w8 ⟨v609, rfl, ho0, hb⟩
 refine ⟨_, rfl, ?_⟩
 replace HO605 := rb_ HO605 hb
 have HO610 := Aside0.mk (Kd.R_lower ho0 (sz_ HB))
 replace BK601 := kl_ BK601 hb
 replace BK602 := kl_ BK602 hb
 replace HB := ss_ HB hb
 clear hb ho0
 obtain ⟨Ao9, co9, eo9⟩ := Kd.R_slice HO610.out
 (first | subst eo9 | (injection eo9 with f1_ f2_ f3_; have f4_ := f1_.symm; have f5_ := f3_.symm; clear f1_ f2_ f3_; subst f4_; subst f5_))
 obtain ⟨Ao10, co10, eo10⟩ := Kd.R_slice HO605.out
 (first | subst eo10 | (injection eo10 with f1_ f2_ f3_; have f4_ := f1_.symm; have f5_ := f3_.symm; clear f1_ f2_ f3_; subst f4_; subst f5_))
 refine hK.out _ _ ⟨bc0_ BK601.out, bc1_ BK601.out, bc2_ BK601.out, bc3_ BK601.out, bc4_ BK601.out⟩ (fun hHeld => ?_)
 clear hK K
 refine no_ 8 ?_
 refine pt_ 8 11 511 ?_
 refine one_ (i := 9) (N := none) (lz_ 10 1023) rfl rfl (one_of HT_.out (by kernel_rfl)) (by decide) (fun K hK => ?_)
 have hs11 := bc0_ BK602.out
 have hfs11 := blk_frozen BK602.out 0
 have hns11_0 := NB601_602.out
 have hms11_0 := NB602_601.out
 have hs12 := bc1_ BK602.out
 have hfs12 := blk_frozen BK602.out 1
 have hns12_0 := NB601_602.out
 have hms12_0 := NB602_601.out
 have hs13 := bc2_ BK602.out
 have hfs13 := blk_frozen BK602.out 2
 have hns13_0 := NB601_602.out
 have hms13_0 := NB602_601.out
 have hs14 := bc3_ BK602.out
 have hfs14 := blk_frozen BK602.out 3
 have hns14_0 := NB601_602.out
 have hms14_0 := NB602_601.out
 have hs15 := bc4_ BK602.out
 have hfs15 := blk_frozen BK602.out 4
 have hns15_0 := NB601_602.out
 have hms15_0 := NB602_601.out
 refine skip_ (w1 := ?_) (by rfl) rfl ?_ ?_
 rotate_left
 ·go_simp
  rfl
 refine hK.out _ _ ⟨((cell_far (p := ⟨gb602, _, none⟩) NB601_602.out _).trans (((cell_far (p := ⟨gb602, _, none⟩) NB601_602.out _).trans (((cell_far (p := ⟨gb602, _, none⟩) NB601_602.out _).trans (((cell_far (p := ⟨gb602, _, none⟩) NB601_602.out _).trans (((cell_far (p := ⟨gb602, _, none⟩) NB601_602.out _).trans (hHeld.1)))))))))), ((cell_far (p := ⟨gb602, _, none⟩) NB601_602.out _).trans (((cell_far (p := ⟨gb602, _, none⟩) NB601_602.out _).trans (((cell_far (p := ⟨gb602, _, none⟩) NB601_602.out _).trans (((cell_far (p := ⟨gb602, _, none⟩) NB601_602.out _).trans (((cell_far (p := ⟨gb602, _, none⟩) NB601_602.out _).trans (hHeld.2.1)))))))))), ((cell_far (p := ⟨gb602, _, none⟩) NB601_602.out _).trans (((cell_far (p := ⟨gb602, _, none⟩) NB601_602.out _).trans (((cell_far (p := ⟨gb602, _, none⟩) NB601_602.out _).trans (((cell_far (p := ⟨gb602, _, none⟩) NB601_602.out _).trans (((cell_far (p := ⟨gb602, _, none⟩) NB601_602.out _).trans (hHeld.2.2.1)))))))))), ((cell_far (p := ⟨gb602, _, none⟩) NB601_602.out _).trans (((cell_far (p := ⟨gb602, _, none⟩) NB601_602.out _).trans (((cell_far (p := ⟨gb602, _, none⟩) NB601_602.out _).trans (((cell_far (p := ⟨gb602, _, none⟩) NB601_602.out _).trans (((cell_far (p := ⟨gb602, _, none⟩) NB601_602.out _).trans (hHeld.2.2.2.1)))))))))), ((cell_far (p := ⟨gb602, _, none⟩) NB601_602.out _).trans (((cell_far (p := ⟨gb602, _, none⟩) NB601_602.out _).trans (((cell_far (p := ⟨gb602, _, none⟩) NB601_602.out _).trans (((cell_far (p := ⟨gb602, _, none⟩) NB601_602.out _).trans (((cell_far (p := ⟨gb602, _, none⟩) NB601_602.out _).trans (hHeld.2.2.2.2))))))))))⟩ (fun hHeld => ?_)
 clear hK K
 refine done_ (done_of HT_.out (by kernel_rfl)) ?_
 try go_wp2
 refine bodyPost_ret (results_cell_row rfl _ _ gb602 37 #[.slice Ao10 t603.length co10, .int .i64 t606, .string t607, .slice Ao9 t608.length co9, .int .i64 a0_4] (0, 0) _ rfl (by exact kq_ BK602) Try.underlying37 rfl (by kernel_rfl)) rfl ?_
 exact ⟨_, _, e2_, by (with_reducible repeat (first | apply Kd.R_alloc | apply Kd.R_drewN | apply Kd.R_drew)); exact Kd.R_mono (Kd.R_far (p := ⟨gb602, 4, none⟩) (Kd.R_far (p := ⟨gb602, 3, none⟩) (Kd.R_far (p := ⟨gb602, 2, none⟩) (Kd.R_far (p := ⟨gb602, 1, none⟩) (Kd.R_far (p := ⟨gb602, 0, none⟩) (Kd.R_types HO605.out BK602.out (by decide)) (fun _ hk => hk.2) (.slice Ao10 t603.length co10)) (fun _ hk => hk.2) (.int .i64 t606)) (fun _ hk => hk.2) (.string t607)) (fun _ hk => hk.2) (.slice Ao9 t608.length co9)) (fun _ hk => hk.2) (.int .i64 a0_4)) (fun _ hk => trivial), by (with_reducible repeat (first | apply Kd.R_alloc | apply Kd.R_drewN | apply Kd.R_drew)); exact Kd.R_mono (Kd.R_far (p := ⟨gb602, 4, none⟩) (Kd.R_far (p := ⟨gb602, 3, none⟩) (Kd.R_far (p := ⟨gb602, 2, none⟩) (Kd.R_far (p := ⟨gb602, 1, none⟩) (Kd.R_far (p := ⟨gb602, 0, none⟩) (Kd.R_types HO610.out BK602.out (by decide)) (fun _ hk => hk.2) (.slice Ao10 t603.length co10)) (fun _ hk => hk.2) (.int .i64 t606)) (fun _ hk => hk.2) (.string t607)) (fun _ hk => hk.2) (.slice Ao9 t608.length co9)) (fun _ hk => hk.2) (.int .i64 a0_4)) (fun _ hk => trivial), bw_ HB⟩
end Go.Proofs.Ytjnnglphdaemaaa.Q
end

section
-- Written by a program of this session (wip/tools/pp.sh) over the print of the kit.
namespace Go.Proofs.Ytjnnglphdaemaaa.Q
open Go.RowKit Go.Proofs.YtjnnglphdaemaaaW.PrintWords Go.Proofs.YtjnnglphdaemaaaW.PrintLast Go.Proofs.YtjnnglphdaemaaaW.PrintMore
attribute [local go_sem] max2_int min2_int max_two min_two max_three min_three max_four min_four   -- for this text's walks alone
set_option linter.unusedVariables false
set_option linter.unusedSimpArgs false
end Go.Proofs.Ytjnnglphdaemaaa.Q
end

section
/- What copies of logs and stores return, the program's and the reference's. -/
namespace Go.Proofs.Ytjnnglphdaemaaa.Q
open Go.RowKit Go.Proofs.Ytjnnglphdaemaaa.B Go.Proofs.YtjnnglphdaemaaaW.PrintWords
theorem impl_copyStore_eq (l : List ByteArray) (n : Int) (s : ByteArray) (b : List Int) (u : Int) (hl : l.length < 8796093022208) (hb : b.length < 140737488355328) : impl_copyStore.f l n s b u = some (l, n, s, b, u) := by
  unfold impl_copyStore.f slices_Clone_byte_byte.f
  rw [impl_copyLog_eq l n s hl, if_pos (show b.length ≤ 140737488355328 by omega)]
  rfl
end Go.Proofs.Ytjnnglphdaemaaa.Q
end

section
-- Written by a program of this session (wip/tools/pp.sh) over the print of the kit.
namespace Go.Proofs.Ytjnnglphdaemaaa.Q
open Go.RowKit Go.Proofs.YtjnnglphdaemaaaW.PrintWords Go.Proofs.YtjnnglphdaemaaaW.PrintLast Go.Proofs.YtjnnglphdaemaaaW.PrintMore
attribute [local go_sem] max2_int min2_int max_two min_two max_three min_three max_four min_four   -- for this text's walks alone
set_option linter.unusedVariables false
set_option linter.unusedSimpArgs false
def impl_LogNew.f (k : Nat)  : Option (List ByteArray × Int × ByteArray) := (impl_HeadOf.f k ([] : List ByteArray)).bind fun bt602 => (some (([] : List ByteArray), bt602.1, bt602.2))
theorem impl_LogNew.mono : ∀ k, LeO (impl_LogNew.f k ) (impl_LogNew.f (k + 1) ) := by
 intro  k
 unfold impl_LogNew.f
 repeat' (with_reducible first | exact LeO.refl _ | exact LeO.none _ | apply impl_HeadOf.mono | apply LeO.ite | refine LeO.bind ?_ fun _ => ?_)
set_option maxHeartbeats 8000000 in
set_option maxRecDepth 100000 in
theorem impl_LogNew.calls (k : Nat)  (r1 : List ByteArray) (r2 : Int) (r3 : ByteArray) (w : World) (h : impl_LogNew.f k  = some (r1, r2, r3)) :
  Calls Try.prog 14 #[] w fun e w' => ∃ v0_ : Value, e = .returned (.agg #[v0_, .int .i64 r2, .string r3]) ∧ Kd.R Kd.string 9 w' w.heap.size (fun _ => True) v0_ r1 ∧ Below w.heap.size w w' := by
 have hu31 := Try.underlying31
 have HB := Aside0.mk (Below.refl w.heap.size w)
 have H : ((impl_HeadOf.f k ([] : List ByteArray)).bind fun bt602 => (some (([] : List ByteArray), bt602.1, bt602.2))) = some (r1, r2, r3) := h
 clear h
 replace H := bi_ H; obtain ⟨⟨t602, t603⟩, A1, H⟩ := H
 dsimp only at H
 replace H := so3_ H; obtain ⟨rfl, rfl, rfl⟩ := H
 go_enter Try.func14, Try.ntmps14
 go_wp2_with (first | ((with_reducible refine gd_ 0 ?_); refine bx_ 0 31 #[.slice none 0 0, .int .i64 0, .string (⟨#[]⟩ : ByteArray)] ?_; intro gb601 hg w2 hbox hb; have BK601 := Aside0.mk hbox; have GW601 := gg_ hg HB; have GE601 := GW601; replace HB := ss_ HB hb; clear hb hbox hg) | ((with_reducible refine gk_ 12 ?_); refine gl_ 1 Try.func12 #[.slice none 0 0] ?_; (refine (impl_HeadOf.calls k _ _ ([] : List ByteArray) t602 t603 _ ?side1 ?side2 A1.out).mono ?_); (case side1 => exact Kd.C_nil _ _); (case side2 => exact Nat.le_refl _); rintro e w3 ⟨rfl, hb⟩; refine ⟨_, rfl, ?_⟩; replace BK601 := kl_ BK601 hb; replace HB := ss_ HB hb; clear hb; have hz4 := cz3_ BK601))
 refine bodyPost_ret (results_cell_row rfl _ _ gb601 31 #[.slice none 0 0, .int .i64 t602, .string t603] (0, 0) _ rfl (by exact kq_ BK601) Try.underlying31 rfl (by kernel_rfl)) rfl ?_
 exact ⟨_, e2_, by first | exact Kd.R_nil _ _ _ _ _ | exact Kd.N_nil _ _ _ _ _ | exact Kd.V_nil _ _ _ _ _ | exact Kd.Q_nil _ _ _ _ _ | exact Kd.S_nil _ _ _ _ _, bw_ HB⟩
end Go.Proofs.Ytjnnglphdaemaaa.Q
end

section
/- A new log: the program's and the reference's are one. Plain. -/
namespace Go.Proofs.Ytjnnglphdaemaaa.Q
open Go.RowKit Go.Proofs.Ytjnnglphdaemaaa.B Go.Proofs.YtjnnglphdaemaaaW.PrintWords Go.Proofs.YtjnnglphdaemaaaW.PrintMore
set_option linter.unusedVariables false

theorem impl_LogNew_ev : Ev (fun k => impl_LogNew.f k) (([] : List ByteArray), (headOf []).1, (headOf []).2) := by
  unfold impl_LogNew.f
  exact Ev.bind (impl_HeadOf_ev [] (by simp)) (Ev.now _)
end Go.Proofs.Ytjnnglphdaemaaa.Q
end

section
-- Written by a program of this session (wip/tools/pp.sh) over the print of the kit.
namespace Go.Proofs.Ytjnnglphdaemaaa.Q
open Go.RowKit Go.Proofs.YtjnnglphdaemaaaW.PrintWords Go.Proofs.YtjnnglphdaemaaaW.PrintLast Go.Proofs.YtjnnglphdaemaaaW.PrintMore
attribute [local go_sem] max2_int min2_int max_two min_two max_three min_three max_four min_four   -- for this text's walks alone
set_option linter.unusedVariables false
set_option linter.unusedSimpArgs false
def impl_StoreNew.f (k : Nat)  : Option (List ByteArray × Int × ByteArray × List Int × Int) := (impl_LogNew.f k).bind fun bt602 => (some (bt602.1, bt602.2.1, bt602.2.2, ([] : List Int), 0))
theorem impl_StoreNew.mono : ∀ k, LeO (impl_StoreNew.f k ) (impl_StoreNew.f (k + 1) ) := by
 intro  k
 unfold impl_StoreNew.f
 repeat' (with_reducible first | exact LeO.refl _ | exact LeO.none _ | apply impl_LogNew.mono | apply LeO.ite | refine LeO.bind ?_ fun _ => ?_)
set_option maxHeartbeats 8000000 in
set_option maxRecDepth 100000 in
theorem impl_StoreNew.calls (k : Nat)  (r1 : List ByteArray) (r2 : Int) (r3 : ByteArray) (r4 : List Int) (r5 : Int) (w : World) (h : impl_StoreNew.f k  = some (r1, r2, r3, r4, r5)) :
  Calls Try.prog 16 #[] w fun e w' => ∃ v0_ v3_ : Value, e = .returned (.agg #[v0_, .int .i64 r2, .string r3, v3_, .int .i64 r5]) ∧ Kd.R Kd.string 9 w' w.heap.size (fun _ => True) v0_ r1 ∧ Kd.R (Kd.int .u8) 5 w' w.heap.size (fun _ => True) v3_ r4 ∧ Below w.heap.size w w' := by
 have hu37 := Try.underlying37
 have HB := Aside0.mk (Below.refl w.heap.size w)
 have H : ((impl_LogNew.f k).bind fun bt602 => (some (bt602.1, bt602.2.1, bt602.2.2, ([] : List Int), 0))) = some (r1, r2, r3, r4, r5) := h
 clear h
 replace H := bi_ H; obtain ⟨⟨t602, t605, t606⟩, A1, H⟩ := H
 dsimp only at H
 replace H := so5_ H; obtain ⟨rfl, rfl, rfl, rfl, rfl⟩ := H
 go_enter Try.func16, Try.ntmps16
 go_wp2_with (first | ((with_reducible refine gd_ 0 ?_); refine bx_ 0 37 #[.slice none 0 0, .int .i64 0, .string (⟨#[]⟩ : ByteArray), .slice none 0 0, .int .i64 0] ?_; intro gb601 hg w2 hbox hb; have BK601 := Aside0.mk hbox; have GW601 := gg_ hg HB; have GE601 := GW601; replace HB := ss_ HB hb; clear hb hbox hg) | ((with_reducible refine gq_ 14 1 ?_); refine gc_ 1 Try.func14 (impl_LogNew.calls k  t602 t605 t606 _ A1.out) ?_; rintro e w3 ⟨v603, rfl, ho0, hb⟩; refine ⟨_, rfl, ?_⟩; have HO604 := Aside0.mk (Kd.R_lower ho0 (sz_ HB)); replace BK601 := kl_ BK601 hb; replace HB := ss_ HB hb; clear hb ho0; obtain ⟨Ao4, co4, eo4⟩ := Kd.R_slice HO604.out; subst eo4; have hz5 := cz5_ BK601))
 refine bodyPost_ret (results_cell_row rfl _ _ gb601 37 #[.slice Ao4 t602.length co4, .int .i64 t605, .string t606, .slice none 0 0, .int .i64 0] (0, 0) _ rfl (by exact kq_ BK601) Try.underlying37 rfl (by kernel_rfl)) rfl ?_
 exact ⟨_, _, e2_, by (with_reducible repeat (first | apply Kd.R_alloc | apply Kd.R_drewN | apply Kd.R_drew)); exact Kd.R_mono (Kd.R_far (p := ⟨gb601, 4, none⟩) (Kd.R_far (p := ⟨gb601, 3, none⟩) (Kd.R_far (p := ⟨gb601, 2, none⟩) (Kd.R_far (p := ⟨gb601, 1, none⟩) (Kd.R_far (p := ⟨gb601, 0, none⟩) (Kd.R_types HO604.out BK601.out (by decide)) (fun _ hk => hk.2) (.slice Ao4 t602.length co4)) (fun _ hk => hk.2) (.int .i64 t605)) (fun _ hk => hk.2) (.string t606)) (fun _ hk => hk.2) (.slice none 0 0)) (fun _ hk => hk.2) (.int .i64 0)) (fun _ hk => trivial), by first | exact Kd.R_nil _ _ _ _ _ | exact Kd.N_nil _ _ _ _ _ | exact Kd.V_nil _ _ _ _ _ | exact Kd.Q_nil _ _ _ _ _ | exact Kd.S_nil _ _ _ _ _, bw_ HB⟩
end Go.Proofs.Ytjnnglphdaemaaa.Q
end

section
-- Written by a program of this session (wip/tools/pp.sh) over the print of the kit.
namespace Go.Proofs.Ytjnnglphdaemaaa.Q
open Go.RowKit Go.Proofs.YtjnnglphdaemaaaW.PrintWords Go.Proofs.YtjnnglphdaemaaaW.PrintLast Go.Proofs.YtjnnglphdaemaaaW.PrintMore
attribute [local go_sem] max2_int min2_int max_two min_two max_three min_three max_four min_four   -- for this text's walks alone
set_option linter.unusedVariables false
set_option linter.unusedSimpArgs false
end Go.Proofs.Ytjnnglphdaemaaa.Q
end

section
/- A new store: the program's and the reference's are one. Plain. -/
namespace Go.Proofs.Ytjnnglphdaemaaa.Q
open Go.RowKit Go.Proofs.Ytjnnglphdaemaaa.B Go.Proofs.YtjnnglphdaemaaaW.PrintWords Go.Proofs.YtjnnglphdaemaaaW.PrintMore
set_option linter.unusedVariables false

theorem impl_StoreNew_ev : Ev (fun k => impl_StoreNew.f k) (([] : List ByteArray), (headOf []).1, (headOf []).2, ([] : List Int), (0 : Int)) := by
  unfold impl_StoreNew.f
  exact Ev.bind impl_LogNew_ev (Ev.now _)
end Go.Proofs.Ytjnnglphdaemaaa.Q
end

section
/- (*Store).commit, in place: what it makes of a store's block and its rows. -/
namespace Go.Proofs.Ytjnnglphdaemaaa.Q
open Go.RowKit Go.Proofs.YtjnnglphdaemaaaW.PrintWords Go.Proofs.YtjnnglphdaemaaaW.PrintLast Go.Proofs.YtjnnglphdaemaaaW.PrintMore
set_option linter.unusedVariables false
set_option linter.unusedSimpArgs false
def impl_Store_commit.f (k : Nat) (l : List ByteArray) (n : Int) (s : ByteArray) (b : List Int) (u : Int) (t : List S28) (a : Int) (z : ByteArray) (x : List ByteArray) : Option (List ByteArray × Int × ByteArray × List Int × Int) :=
  (impl_PutCommit.f k a z x).bind fun m => (if wrap64 ((b.length : Int) + (m.length : Int)) > 60000 then some (l, n, s, b, 1) else ((impl_extend.f k l n s t a z x).bind fun r => (if r.2.2.2 = 0 then (if b.length + m.length < 140737488355328 then some (r.1, r.2.1, r.2.2.1, b ++ m, 0) else none) else some (l, n, s, b, r.2.2.2))))
theorem impl_Store_commit.mono : ∀ a0 a1 a2 a3 a4 a5 a6 a7 a8 k, LeO (impl_Store_commit.f k a0 a1 a2 a3 a4 a5 a6 a7 a8) (impl_Store_commit.f (k + 1) a0 a1 a2 a3 a4 a5 a6 a7 a8) := by
  intro a0 a1 a2 a3 a4 a5 a6 a7 a8 k
  unfold impl_Store_commit.f
  repeat' (with_reducible first | exact LeO.refl _ | exact LeO.none _ | apply impl_PutCommit.mono | apply impl_extend.mono | apply LeO.ite | refine LeO.bind ?_ fun _ => ?_)
theorem Kd.R_gone {α : Type} {d : Kd α} {e base g : Nat} {W : World} {v : Value} {xs : List α} (h : d.R e W base (fun k => k ≠ g) v xs) (i : Nat) (y : Value) : d.R e (W.setCell ⟨g, i, none⟩ y) base (fun k => k ≠ g) v xs := Kd.R_far h (fun _ hk => hk) y
set_option maxHeartbeats 8000000 in
set_option maxRecDepth 100000 in
theorem impl_Store_commit.calls (k g : Nat) (A0 : Option Addr) (c0 : Nat) (l : List ByteArray) (n : Int) (s : ByteArray) (A3 : Option Addr) (c3 : Nat) (b : List Int) (u : Int) (A1 : Option Addr) (c1 : Nat) (t : List S28) (a : Int) (z : ByteArray) (A4 : Option Addr) (c4 : Nat) (x : List ByteArray) (r1 : List ByteArray) (r2 : Int) (r3 : ByteArray) (r4 : List Int) (r5 : Int) (w0 w : World)
    (hg : w0.heap.size ≤ g) (hbk : w.heap[g]? = some (.cells #[.slice A0 l.length c0, .int .i64 n, .string s, .slice A3 b.length c3, .int .i64 u] 37 (0, 0)))
    (hO : Kd.R Kd.string 9 w w0.heap.size (fun k_ => k_ ≠ g) (.slice A0 l.length c0) l) (hP : Kd.R (Kd.int .u8) 5 w w0.heap.size (fun k_ => k_ ≠ g) (.slice A3 b.length c3) b)
    (hT : Kd.C k28 w A1 t.length t) (hT1 : t.length ≤ c1) (hX : Kd.C Kd.string w A4 x.length x) (hX1 : x.length ≤ c4) (hB : Below w0.heap.size w0 w) (h : impl_Store_commit.f k l n s b u t a z x = some (r1, r2, r3, r4, r5)) :
    Calls Try.prog 66 #[.pointer (some ⟨g, 0, none⟩), .slice A1 t.length c1, .agg #[.int .i64 a, .string z], .slice A4 x.length c4] w fun e w' => e = .returned (.int .i64 r5) ∧ ∃ (A0' : Option Addr) (c0' : Nat) (A3' : Option Addr) (c3' : Nat), Kd.R Kd.string 9 w' w0.heap.size (fun k_ => k_ ≠ g) (.slice A0' r1.length c0') r1 ∧ Kd.R (Kd.int .u8) 5 w' w0.heap.size (fun k_ => k_ ≠ g) (.slice A3' r4.length c3') r4 ∧ w'.heap[g]? = some (.cells #[.slice A0' r1.length c0', .int .i64 r2, .string r3, .slice A3' r4.length c3', .int .i64 u] 37 (0, 0)) ∧ Below w0.heap.size w0 w' ∧ Kept w w' (fun k_ => k_ = g ∨ some k_ = (Value.slice A3 b.length c3).ownBlock) := by
  have hu37 := Try.underlying37
  have hu31 := Try.underlying31
  have hu28 := Try.underlying28
  have HB := Aside0.mk hB
  have GE := Aside0.mk hg
  have BK := Aside0.mk hbk
  have HO := Aside0.mk hO
  have HP := Aside0.mk hP
  have HT := Aside0.mk hT
  have HT1 := Aside0.mk hT1
  have HX := Aside0.mk hX
  have HX1 := Aside0.mk hX1
  have HKP := Aside0.mk (Kept.refl w (fun k_ => k_ = g ∨ some k_ = (Value.slice A3 b.length c3).ownBlock))
  unfold impl_Store_commit.f at h
  replace h := bi_ h; obtain ⟨m, AM, h⟩ := h
  clear hB hg hbk hO hP hT hT1 hX hX1
  have hz := cz5_ BK
  replace h := it_ h; obtain ⟨d1, h⟩ | ⟨d1, h⟩ := h
  · have d1b : decide (60000 < wrap64 ((b.length : Int) + (m.length : Int))) = true := decide_eq_true d1
    have d1c : decide (60000 < IntKind.i64.wrap ((b.length : Int) + (m.length : Int))) = true := by rw [i64_w]; exact d1b
    clear d1
    replace h := so5_ h; obtain ⟨rfl, rfl, rfl, rfl, rfl⟩ := h
    go_enter Try.func66, Try.ntmps66
    go_wp2_with (first | ((with_reducible refine gd_ 6 ?_); refine bx_ 6 28 #[.int .i64 a, .string z] ?_; intro gh hg_ w1 hbox hb; have BH := Aside0.mk hbox; have GH := gg_ hg_ HB; have NGH := nla_ hg_ BK; replace HB := ss_ HB hb; replace BK := kl_ BK hb; replace HO := rb_ HO hb; replace HP := rb_ HP hb; replace HT := Aside0.mk (Kd.C_below HT.out hb); replace HX := Aside0.mk (Kd.C_below HX.out hb); replace HKP := Aside0.mk (Kept.below HKP.out hb); clear hb hbox hg_ hz; have hz := cz5_ BK; have hy := cz2_ BH; have hn := NGH.out; have hn2 := NGH.out.symm) | ((with_reducible refine gq_ 107 14 ?_); refine gc_ 14 Try.func107 (impl_PutCommit.calls k a z _ _ x m _ HX.out HX1.out AM.out) ?_; rintro e w2 ⟨v1, rfl, ho, hb⟩; refine ⟨_, rfl, ?_⟩; have HM := Aside0.mk (Kd.R_lower ho (sz_ HB)); replace HB := ss_ HB hb; replace BK := kl_ BK hb; replace HO := rb_ HO hb; replace HP := rb_ HP hb; replace HT := Aside0.mk (Kd.C_below HT.out hb); replace HX := Aside0.mk (Kd.C_below HX.out hb); replace HKP := Aside0.mk (Kept.below HKP.out hb); replace BH := kl_ BH hb; clear hb ho hz hy; have hz := cz5_ BK; have hy := cz2_ BH; obtain ⟨Am, cm, em⟩ := Kd.R_slice HM.out; subst em))
    go_ret
    exact ⟨rfl, A0, c0, A3, c3, HO.out, HP.out, BK.out, HB.out, HKP.out⟩
  · have d1b : decide (60000 < wrap64 ((b.length : Int) + (m.length : Int))) = false := decide_eq_false d1
    have d1c : decide (60000 < IntKind.i64.wrap ((b.length : Int) + (m.length : Int))) = false := by rw [i64_w]; exact d1b
    clear d1
    replace h := bi_ h; obtain ⟨⟨q1, q2, q3, q4⟩, AE, h⟩ := h
    dsimp only at h
    have H := Aside0.mk h
    clear h
    go_enter Try.func66, Try.ntmps66
    go_wp2_with (first | ((with_reducible refine gd_ 6 ?_); refine bx_ 6 28 #[.int .i64 a, .string z] ?_; intro gh hg_ w1 hbox hb; have BH := Aside0.mk hbox; have GH := gg_ hg_ HB; have NGH := nla_ hg_ BK; replace HB := ss_ HB hb; replace BK := kl_ BK hb; replace HO := rb_ HO hb; replace HP := rb_ HP hb; replace HT := Aside0.mk (Kd.C_below HT.out hb); replace HX := Aside0.mk (Kd.C_below HX.out hb); replace HKP := Aside0.mk (Kept.below HKP.out hb); clear hb hbox hg_ hz; have hz := cz5_ BK; have hy := cz2_ BH; have hn := NGH.out; have hn2 := NGH.out.symm) | ((with_reducible refine gq_ 107 14 ?_); refine gc_ 14 Try.func107 (impl_PutCommit.calls k a z _ _ x m _ HX.out HX1.out AM.out) ?_; rintro e w2 ⟨v1, rfl, ho, hb⟩; refine ⟨_, rfl, ?_⟩; have HM := Aside0.mk (Kd.R_lower ho (sz_ HB)); replace HB := ss_ HB hb; replace BK := kl_ BK hb; replace HO := rb_ HO hb; replace HP := rb_ HP hb; replace HT := Aside0.mk (Kd.C_below HT.out hb); replace HX := Aside0.mk (Kd.C_below HX.out hb); replace HKP := Aside0.mk (Kept.below HKP.out hb); replace BH := kl_ BH hb; clear hb ho hz hy; have hz := cz5_ BK; have hy := cz2_ BH; obtain ⟨Am, cm, em⟩ := Kd.R_slice HM.out; subst em))
    clear hz hy hn hn2
    replace BK := Aside0.mk (blk_drew BK.out)
    replace BH := Aside0.mk (blk_drew BH.out)
    replace HO := Aside0.mk (Kd.R_drew HO.out)
    replace HP := Aside0.mk (Kd.R_drew HP.out)
    replace HT := Aside0.mk (Kd.C_drew HT.out)
    replace HX := Aside0.mk (Kd.C_drew HX.out)
    replace HM := Aside0.mk (Kd.R_drew HM.out)
    replace HB := Aside0.mk (below_drew1 HB.out)
    replace HKP := Aside0.mk (Kept.drew HKP.out)
    refine start_ (n := 14) (S := fun w' => w'.cell? ⟨g, 0, none⟩ = some (.slice A0 l.length c0) ∧ w'.cell? ⟨g, 1, none⟩ = some (.int .i64 n) ∧ w'.cell? ⟨g, 2, none⟩ = some (.string s) ∧ w'.cell? ⟨gh, 0, none⟩ = some (.int .i64 a) ∧ w'.cell? ⟨gh, 1, none⟩ = some (.string z)) (ds := []) (lz_ 14 0) (by kernel_rfl) rfl rfl ⟨bc0_ BK.out, bc1_ BK.out, bc2_ BK.out, bc0_ BH.out, bc1_ BH.out⟩ (fun hHeld => ?_)
    generalize w2.drew = w3 at BK BH HO HP HT HX HM HB HKP hHeld ⊢
    refine pk_ 0 25 1 ?_
    refine pk_ 1 26 3 ?_
    refine pk_ 2 27 7 ?_
    refine pk_ 4 29 23 ?_
    refine pk_ 6 31 87 ?_
    refine tk_ 3 28 95 ?_
    refine tk_ 5 30 127 ?_
    refine join_ (σ := Value × Nat) 2 (lz_ 14 4095) (fun s_ => [(32, .tuple #[.agg #[s_.1, .int .i64 q2, .string q3], .int .i64 q4]), (24, .tuple #[.agg #[s_.1, .int .i64 q2, .string q3], .int .i64 q4]), (33, .agg #[s_.1, .int .i64 q2, .string q3]), (34, .int .i64 q4), (10, .pointer (some ⟨s_.2, 0, none⟩))]) (fun s_ w' => Aside0 (Kd.R Kd.string 9 w' w0.heap.size (fun k_ => k_ ≠ g) s_.1 q1) ∧ Aside0 (Kd.R Kd.string 9 w' w0.heap.size (fun k_ => k_ ≠ g) (.slice A0 l.length c0) l) ∧ Aside0 (Kd.R (Kd.int .u8) 5 w' w0.heap.size (fun k_ => k_ ≠ g) (.slice A3 b.length c3) b) ∧ Aside0 (Kd.R (Kd.int .u8) 5 w' w0.heap.size (fun _ => True) (.slice Am m.length cm) m) ∧ Aside0 (w'.heap[g]? = some (.cells #[.slice A0 l.length c0, .int .i64 n, .string s, .slice A3 b.length c3, .int .i64 u] 37 (0, 0))) ∧ Aside0 (w'.heap[gh]? = some (.cells #[.int .i64 a, .string z] 28 (0, 0))) ∧ Aside0 (w'.heap[s_.2]? = some (.cells #[.slice none 0 0, .int .i64 0, .string (⟨#[]⟩ : ByteArray)] 31 (0, 0))) ∧ Aside0 (w0.heap.size ≤ s_.2) ∧ Aside0 (w.heap.size ≤ s_.2) ∧ Aside0 (g ≠ s_.2) ∧ Aside0 (gh ≠ s_.2) ∧ Aside0 (Below w0.heap.size w0 w') ∧ Aside0 (Kept w w' (fun k_ => k_ = g ∨ some k_ = (Value.slice A3 b.length c3).ownBlock))) ?_ ?_
    rotate_left
    · intro hJ
      refine two_ (i := 7) (j := 11) (Ni := some 32) (Nj := some 10) (lz_ 14 255) (lz_ 14 2175) rfl rfl rfl rfl (by kernel_rfl) (by decide) (by decide) (fun K hK => ?_) (fun K hK => ?_)
      · skip
        refine gf_ Try.func64 (impl_extend.calls k (fun k_ => True) _ _ l n s _ _ t a z (fun k_ => True) _ _ x q1 q2 q3 q4 _ (Kd.V_mk (cl_ HO) (Kd.F_mono (Kd.C_F Kd.heap_string (Kd.R_reads' HO.out).2.2) (fun _ _ => trivial))) HT.out HT1.out (Kd.V_mk HX1.out (Kd.F_mono (Kd.C_F Kd.heap_string HX.out) (fun _ _ => trivial))) AE.out) ?_
        rintro e w4 ⟨v, rfl, ho, hb⟩
        refine ⟨_, rfl, ?_⟩
        have HV := Aside0.mk (Kd.R_mono (ok' := fun k_ => k_ ≠ g) (Kd.R_lower ho (sz_ HB)) (fun k_ hk_ => by have := blk_lt BK.out; omega))
        replace HB := ss_ HB hb
        replace BK := kl_ BK hb; replace BH := kl_ BH hb; replace HO := rb_ HO hb; replace HP := rb_ HP hb; replace HT := Aside0.mk (Kd.C_below HT.out hb); replace HX := Aside0.mk (Kd.C_below HX.out hb); replace HM := rb_ HM hb; replace HKP := Aside0.mk (Kept.below HKP.out hb)
        clear hb ho
        refine hK.out _ _ ⟨bc0_ BK.out, bc1_ BK.out, bc2_ BK.out, bc0_ BH.out, bc1_ BH.out⟩ (fun hHeld => ?_)
        clear hK K
        refine no_ 32 ?_
        refine pk_ 8 24 511 ?_
        refine pk_ 9 33 1023 ?_
        refine pk_ 10 34 2047 ?_
        refine one_ (i := 11) (N := some 10) (lz_ 14 4095) rfl rfl (by kernel_rfl) (by decide) (fun K hK => ?_)
        refine bz_ 10 31 #[.slice none 0 0, .int .i64 0, .string (⟨#[]⟩ : ByteArray)] ?_
        intro gl hg_ w5 hbox hb
        have BL := Aside0.mk hbox
        have GL := gg_ hg_ HB
        have GLW := Aside0.mk (gz_ hg_ HKP.out.1)
        have NGL := nla_ hg_ BK
        have NHL := nla_ hg_ BH
        replace HB := ss_ HB hb
        replace BK := kl_ BK hb; replace BH := kl_ BH hb; replace HO := rb_ HO hb; replace HP := rb_ HP hb; replace HT := Aside0.mk (Kd.C_below HT.out hb); replace HX := Aside0.mk (Kd.C_below HX.out hb); replace HM := rb_ HM hb; replace HKP := Aside0.mk (Kept.below HKP.out hb); replace HV := rb_ HV hb
        clear hb hbox hg_
        refine hK.out _ _ ⟨bc0_ BK.out, bc1_ BK.out, bc2_ BK.out, bc0_ BH.out, bc1_ BH.out⟩ (fun hHeld => ?_)
        clear hK K
        refine no_ 10 ?_
        exact nj_ (hJ (v, gl) _ ⟨HV, HO, HP, HM, BK, BH, BL, GL, GLW, NGL, NHL, HB, HKP⟩)
      · skip
        refine bz_ 10 31 #[.slice none 0 0, .int .i64 0, .string (⟨#[]⟩ : ByteArray)] ?_
        intro gl hg_ w5 hbox hb
        have BL := Aside0.mk hbox
        have GL := gg_ hg_ HB
        have GLW := Aside0.mk (gz_ hg_ HKP.out.1)
        have NGL := nla_ hg_ BK
        have NHL := nla_ hg_ BH
        replace HB := ss_ HB hb
        replace BK := kl_ BK hb; replace BH := kl_ BH hb; replace HO := rb_ HO hb; replace HP := rb_ HP hb; replace HT := Aside0.mk (Kd.C_below HT.out hb); replace HX := Aside0.mk (Kd.C_below HX.out hb); replace HM := rb_ HM hb; replace HKP := Aside0.mk (Kept.below HKP.out hb)
        clear hb hbox hg_
        refine hK.out _ _ ⟨bc0_ BK.out, bc1_ BK.out, bc2_ BK.out, bc0_ BH.out, bc1_ BH.out⟩ (fun hHeld => ?_)
        clear hK K
        refine no_ 10 ?_
        refine one_ (i := 7) (N := some 32) (lz_ 14 2303) rfl rfl (by kernel_rfl) (by decide) (fun K hK => ?_)
        refine gf_ Try.func64 (impl_extend.calls k (fun k_ => True) _ _ l n s _ _ t a z (fun k_ => True) _ _ x q1 q2 q3 q4 _ (Kd.V_mk (cl_ HO) (Kd.F_mono (Kd.C_F Kd.heap_string (Kd.R_reads' HO.out).2.2) (fun _ _ => trivial))) HT.out HT1.out (Kd.V_mk HX1.out (Kd.F_mono (Kd.C_F Kd.heap_string HX.out) (fun _ _ => trivial))) AE.out) ?_
        rintro e w4 ⟨v, rfl, ho, hb⟩
        refine ⟨_, rfl, ?_⟩
        have HV := Aside0.mk (Kd.R_mono (ok' := fun k_ => k_ ≠ g) (Kd.R_lower ho (sz_ HB)) (fun k_ hk_ => by have := blk_lt BK.out; omega))
        replace HB := ss_ HB hb
        replace BK := kl_ BK hb; replace BH := kl_ BH hb; replace HO := rb_ HO hb; replace HP := rb_ HP hb; replace HT := Aside0.mk (Kd.C_below HT.out hb); replace HX := Aside0.mk (Kd.C_below HX.out hb); replace HM := rb_ HM hb; replace HKP := Aside0.mk (Kept.below HKP.out hb); replace BL := kl_ BL hb
        clear hb ho
        refine hK.out _ _ ⟨bc0_ BK.out, bc1_ BK.out, bc2_ BK.out, bc0_ BH.out, bc1_ BH.out⟩ (fun hHeld => ?_)
        clear hK K
        refine no_ 32 ?_
        refine pk_ 8 24 2559 ?_
        refine pk_ 9 33 3071 ?_
        refine pk_ 10 34 4095 ?_
        exact nj_ (hJ (v, gl) _ ⟨HV, HO, HP, HM, BK, BH, BL, GL, GLW, NGL, NHL, HB, HKP⟩)
    · clear BK BH HO HP HT HX HM HB HKP hHeld
      rintro ⟨v, gl⟩ w6 ⟨HV, HO, HP, HM, BK, BH, BL, GL, GLW, NGL, NHL, HB, HKP⟩
      dsimp only at HV BL GL GLW NGL NHL
      have hHeld := hn5_ (bc0_ BK.out) (bc1_ BK.out) (bc2_ BK.out) (bc0_ BH.out) (bc1_ BH.out)
      refine nj_ ?_
      obtain ⟨Av, cv, ev⟩ := Kd.R_slice HV.out
      subst ev
      refine one_ (i := 12) (N := none) (lz_ 14 8191) rfl rfl (by kernel_rfl) (by decide) (fun K hK => ?_)
      have hs := cz3_ BL
      have hn1 := NGL.out
      have hn2 := NGL.out.symm
      have hn3 := NHL.out
      have hn4 := NHL.out.symm
      refine skip_ (w1 := ?_) (by rfl) rfl ?_ ?_
      rotate_left
      · go_simp
        rfl
      obtain ⟨w7, hw7⟩ : ∃ w7 : World, w7 = (((w6.setCell ⟨gl, 0, none⟩ (.slice Av q1.length cv)).setCell ⟨gl, 1, none⟩ (.int .i64 q2)).setCell ⟨gl, 2, none⟩ (.string q3)) := ⟨_, rfl⟩
      rw [← hw7]
      have HV7 : Aside0 (Kd.R Kd.string 9 w7 w0.heap.size (fun k_ => k_ ≠ g) (.slice Av q1.length cv) q1) := ⟨by rw [hw7]; exact kf_ HV BL⟩
      have HO7 : Aside0 (Kd.R Kd.string 9 w7 w0.heap.size (fun k_ => k_ ≠ g) (.slice A0 l.length c0) l) := ⟨by rw [hw7]; exact kf_ HO BL⟩
      have HP7 : Aside0 (Kd.R (Kd.int .u8) 5 w7 w0.heap.size (fun k_ => k_ ≠ g) (.slice A3 b.length c3) b) := ⟨by rw [hw7]; exact kf_ HP BL⟩
      have HM7 : Aside0 (Kd.R (Kd.int .u8) 5 w7 w0.heap.size (fun _ => True) (.slice Am m.length cm) m) := ⟨by rw [hw7]; exact kf_ HM BL⟩
      have BK7 : Aside0 (w7.heap[g]? = some (.cells #[.slice A0 l.length c0, .int .i64 n, .string s, .slice A3 b.length c3, .int .i64 u] 37 (0, 0))) := ⟨by rw [hw7]; exact kq_ BK⟩
      have BH7 : Aside0 (w7.heap[gh]? = some (.cells #[.int .i64 a, .string z] 28 (0, 0))) := ⟨by rw [hw7]; exact kq_ BH⟩
      have BL7 : Aside0 (w7.heap[gl]? = some (.cells #[.slice Av q1.length cv, .int .i64 q2, .string q3] 31 (0, 0))) := ⟨by rw [hw7]; exact kq_ BL⟩
      have HB7 : Aside0 (Below w0.heap.size w0 w7) := ⟨by rw [hw7]; exact bw_ HB⟩
      have HKP7 : Aside0 (Kept w w7 (fun k_ => k_ = g ∨ some k_ = (Value.slice A3 b.length c3).ownBlock)) := ⟨by rw [hw7]; exact Kept.setCell (Kept.setCell (Kept.setCell HKP.out (.inr GLW.out) _) (.inr GLW.out) _) (.inr GLW.out) _⟩
      refine hK.out _ _ ⟨bc0_ BK7.out, bc1_ BK7.out, bc2_ BK7.out, bc0_ BH7.out, bc1_ BH7.out⟩ (fun hHeld => ?_)
      clear hK K HV HO HP HM BK BH BL HB HKP hs hw7
      refine pk_ 13 11 16383 ?_
      refine done_ (by kernel_rfl) ?_
      clear hHeld hn3 hn4
      have hz := cz5_ BK7
      have hl := cz3_ BL7
      have h := H.out
      clear H
      replace h := it_ h; obtain ⟨d2, h⟩ | ⟨d2, h⟩ := h
      · have d2b : (q4 == 0) = true := beq_iff_eq.mpr d2
        have d2c : (q4 != 0) = false := bne_eq_false_iff_eq.mpr d2
        replace h := ip_ h; obtain ⟨d3, h⟩ := h
        have LM := Aside0.mk d3
        clear d2 d3
        replace h := so5_ h; obtain ⟨rfl, rfl, rfl, rfl, rfl⟩ := h
        go_wp2_with ((at_builtin; refine Kd.R_append_rows (Kd.int .u8) (w0 := w0) w0.heap.size rfl (.tmp 46) (.tmp 47) 22 5 (.int .u8 0) 1 rfl Try.underlying22 info5 rfl (by decide) (by omega) (.slice A3 b.length c3) b m _ _ _ (fun k_ => k_ ≠ g) (fun _ => False) rfl rfl ?aO ?aR (fun _ _ h => h) (fun _ h => h.elim) ?aF ?aB ?aS ?aL ?_; (case aO => exact Kd.R_gone (Kd.R_gone (Kd.R_gone HP7.out 0 (.slice Av q1.length cv)) 1 (.int .i64 q2)) 2 (.string q3)); (case aR => exact (chf_ HM7 BK7)); (case aF => exact (fun k_ hk_ e_ => by have := blk_lt BK7.out; simp [World.setCell] at hk_; omega)); (case aB => exact (bw_ HB7)); (case aS => exact (sz_ HB7)); (case aL => have := LM.out; omega); intro v9 w9 ho hb hgr hat; have BK9 := kgp_ BK7 HP7 hgr; have HV9 := Aside0.mk (Kd.R_mono (Kd.R_after (Kd.R_apart' (Kd.R_gone (Kd.R_gone (Kd.R_gone HV7.out 0 (.slice Av q1.length cv)) 1 (.int .i64 q2)) 2 (.string q3)) (Kd.R_typed (Kd.R_gone (Kd.R_gone (Kd.R_gone HP7.out 0 (.slice Av q1.length cv)) 1 (.int .i64 q2)) 2 (.string q3))) (by decide)) hgr hat) (fun _ h_ => h_.1)); have HKP9 := Aside0.mk (Kept.of_grown hgr (Kept.setCell (Kept.setCell (Kept.setCell HKP7.out (.inl (.inl rfl)) _) (.inl (.inl rfl)) _) (.inl (.inl rfl)) _) (fun k_ hk_ => .inl (.inr hk_.symm))); have HB9 := Aside0.mk hb; obtain ⟨A9, c9, e9⟩ := Kd.R_slice ho; subst e9; have HP9 := Aside0.mk ho; clear ho hb hgr hat hz hl; have hz := cz5_ BK9))
        go_ret
        exact ⟨rfl, Av, cv, A9, c9, Kd.R_gone HV9.out 3 _, Kd.R_gone HP9.out 3 _, (by rw [List.length_append]; exact kq_ BK9), bw_ HB9, Kept.setCell HKP9.out (.inl (.inl rfl)) _⟩
      · have d2b : (q4 == 0) = false := beq_eq_false_iff_ne.mpr d2
        have d2c : (q4 != 0) = true := bne_iff_ne.mpr d2
        clear d2
        replace h := so5_ h; obtain ⟨rfl, rfl, rfl, rfl, rfl⟩ := h
        go_wp2
        go_ret
        exact ⟨rfl, A0, c0, A3, c3, HO7.out, HP7.out, BK7.out, HB7.out, HKP7.out⟩
end Go.Proofs.Ytjnnglphdaemaaa.Q
end

section
/- The program's OpenStore: the commits of bytes, one behind the other. -/
namespace Go.Proofs.Ytjnnglphdaemaaa.Q
open Go.RowKit Go.Proofs.YtjnnglphdaemaaaW.PrintWords Go.Proofs.YtjnnglphdaemaaaW.PrintLast Go.Proofs.YtjnnglphdaemaaaW.PrintMore
attribute [local go_sem] max2_int min2_int max_two min_two
set_option linter.unusedVariables false
set_option linter.unusedSimpArgs false
end Go.Proofs.Ytjnnglphdaemaaa.Q
end

section
/- A row far from two or three blocks of other types. -/
namespace Go.Proofs.Ytjnnglphdaemaaa.Q
open Go.RowKit Go.Proofs.YtjnnglphdaemaaaW.PrintWords Go.Proofs.YtjnnglphdaemaaaW.PrintLast Go.Proofs.YtjnnglphdaemaaaW.PrintMore
set_option linter.unusedVariables false
section
variable {α : Type} {d : Kd α} {e base : Nat} {ok : Nat → Prop} {w W : World} {v : Value} {xs : List α}
end
end Go.Proofs.Ytjnnglphdaemaaa.Q
end

section
-- Written by a program of this session (wip/tools/pp.sh) over the print of the kit.
namespace Go.Proofs.Ytjnnglphdaemaaa.Q
open Go.RowKit Go.Proofs.YtjnnglphdaemaaaW.PrintWords Go.Proofs.YtjnnglphdaemaaaW.PrintLast Go.Proofs.YtjnnglphdaemaaaW.PrintMore
attribute [local go_sem] max2_int min2_int max_two min_two max_three min_three max_four min_four   -- for this text's walks alone
set_option linter.unusedVariables false
set_option linter.unusedSimpArgs false
end Go.Proofs.Ytjnnglphdaemaaa.Q
end

section
/- The reference's OpenStore: the commits of bytes, one behind the other. -/
namespace Go.Proofs.Ytjnnglphdaemaaa.Q
open Go.RowKit Go.Proofs.YtjnnglphdaemaaaW.PrintWords Go.Proofs.YtjnnglphdaemaaaW.PrintLast Go.Proofs.YtjnnglphdaemaaaW.PrintMore
set_option linter.unusedVariables false
set_option linter.unusedSimpArgs false
end Go.Proofs.Ytjnnglphdaemaaa.Q
end

section
/- OpenStore, the program's and the reference's: what both come to. -/
namespace Go.Proofs.Ytjnnglphdaemaaa.Q
open Go.RowKit Go.Proofs.Ytjnnglphdaemaaa.B Go.Proofs.YtjnnglphdaemaaaW.PrintWords Go.Proofs.YtjnnglphdaemaaaW.PrintMore
set_option linter.unusedVariables false
set_option linter.unusedSimpArgs false
/-- A head and texts that may come behind a log. -/
def Good (t : List IHead) (l : List ByteArray) (N : Nat) (s : ByteArray) (x : List ByteArray) : Prop := headOk (N : Int) s = true ∧ hasHead t (N : Int) s = true ∧ isHead (l ++ x) (N : Int) s = true ∧ N = l.length + x.length
/-- What opening bytes comes to, behind a log's texts. -/
inductive Opened (t : List IHead) : List ByteArray → List Int → List ByteArray → List Int → Nat → Prop
  | stop {l : List ByteArray} {b : List Int} (h : ∀ N s x r, b = commitB N s x ++ r → headOk (N : Int) s = true → 1 ≤ x.length → x.length ≤ 200 → (∀ y ∈ x, y.size ≤ 1000000000) → ¬ Good t l N s x) : Opened t l b l [] 0
  | step {l : List ByteArray} {r : List Int} {L : List ByteArray} {m : List Int} {c N : Nat} {s : ByteArray} {x : List ByteArray} (hk : headOk (N : Int) s = true) (h1 : 1 ≤ x.length) (h2 : x.length ≤ 200) (hs : ∀ y ∈ x, y.size ≤ 1000000000) (hg : Good t l N s x) (k : Opened t (l ++ x) r L m c) : Opened t l (commitB N s x ++ r) L (commitB N s x ++ m) (c + 1)
theorem ext_good {t : List IHead} {l : List ByteArray} {n : Int} {z : ByteArray} {N : Nat} {s : ByteArray} {x : List ByteArray} (h1 : 1 ≤ x.length) (hg : Good t l N s x) : extOf t l n z (N : Int) s x = (l ++ x, (N : Int), s, 0) := by
  obtain ⟨g1, g2, g3, g4⟩ := hg
  unfold extOf
  have e : ((N : Int) == ((l.length + x.length : Nat) : Int)) = true := by rw [g4]; exact beq_self_eq_true _
  rw [if_pos (by rw [g1, e]; rfl), if_pos g2, if_neg (by omega), if_pos g3]
theorem headOk_is {n : Int} {s : ByteArray} (h : headOk n s = true) : s.size = 32 ∧ 0 ≤ n ∧ n ≤ 200 := by
  unfold headOk at h
  by_cases hc : 0 ≤ n ∧ n ≤ 200
  · rw [if_pos hc] at h
    have := eq_of_beq h
    omega
  · rw [if_neg hc] at h
    cases h
theorem logOk_head {l : List ByteArray} (h : l.length ≤ 200) : logOk l (headOf l).1 (headOf l).2 = true := by
  unfold logOk
  rw [if_pos (by omega)]
  simp
theorem commit_pos (N : Nat) (s : ByteArray) (x : List ByteArray) : 0 < (commitB N s x).length := by
  have := commitB_length N s x
  omega
/-- One round of the loops, by both, at a place where there is a commit. -/
theorem take_more {b : List Int} {a : Nat} {c r : List Int} (ha : a ≤ b.length) (h : b.drop a = c ++ r) : b.take a ++ c = b.take (a + c.length) ∧ r = b.drop (a + c.length) := by
  have e : b = b.take a ++ (c ++ r) := by rw [← h, List.take_append_drop]
  have hl : (b.take a).length = a := by rw [List.length_take]; omega
  constructor
  · have : b.take (a + c.length) = (b.take a ++ (c ++ r)).take (a + c.length) := by rw [← e]
    rw [this, List.take_append, hl, List.take_take, Nat.min_eq_right (by omega), show a + c.length - a = c.length by omega]
    simp
  · have : b.drop (a + c.length) = (b.drop a).drop c.length := by rw [List.drop_drop]
    rw [this, h]
    simp
end Go.Proofs.Ytjnnglphdaemaaa.Q
end

section
/- The program's Commit: a copy of a store, committed to where the store is right. -/
namespace Go.Proofs.Ytjnnglphdaemaaa.Q
open Go.RowKit Go.Proofs.YtjnnglphdaemaaaW.PrintWords Go.Proofs.YtjnnglphdaemaaaW.PrintLast Go.Proofs.YtjnnglphdaemaaaW.PrintMore
set_option linter.unusedVariables false
set_option linter.unusedSimpArgs false
def impl_Commit.f (k : Nat) (l : List ByteArray) (n : Int) (s : ByteArray) (b : List Int) (u : Int) (t : List S28) (a : Int) (z : ByteArray) (x : List ByteArray) : Option (List ByteArray × Int × ByteArray × List Int × Int × Int) :=
  (impl_copyStore.f l n s b u).bind fun c => ((impl_StoreOk.f k l n s b u).bind fun q => (if q = true then ((impl_Store_commit.f k c.1 c.2.1 c.2.2.1 c.2.2.2.1 c.2.2.2.2 t a z x).bind fun r => some (r.1, r.2.1, r.2.2.1, r.2.2.2.1, c.2.2.2.2, r.2.2.2.2)) else some (c.1, c.2.1, c.2.2.1, c.2.2.2.1, c.2.2.2.2, 1)))
theorem impl_Commit.mono : ∀ a0 a1 a2 a3 a4 a5 a6 a7 a8 k, LeO (impl_Commit.f k a0 a1 a2 a3 a4 a5 a6 a7 a8) (impl_Commit.f (k + 1) a0 a1 a2 a3 a4 a5 a6 a7 a8) := by
  intro a0 a1 a2 a3 a4 a5 a6 a7 a8 k
  unfold impl_Commit.f
  repeat' (with_reducible first | exact LeO.refl _ | exact LeO.none _ | apply impl_StoreOk.mono | apply impl_Store_commit.mono | apply LeO.ite | refine LeO.bind ?_ fun _ => ?_)
set_option maxHeartbeats 8000000 in
set_option maxRecDepth 100000 in
theorem impl_Commit.calls (k : Nat) (A0 : Option Addr) (c0 : Nat) (l : List ByteArray) (n : Int) (s : ByteArray) (A3 : Option Addr) (c3 : Nat) (b : List Int) (u : Int) (A1 : Option Addr) (c1 : Nat) (t : List S28) (a : Int) (z : ByteArray) (A4 : Option Addr) (c4 : Nat) (x : List ByteArray) (r1 : List ByteArray) (r2 : Int) (r3 : ByteArray) (r4 : List Int) (r5 r6 : Int) (w : World)
    (hr0 : Kd.C Kd.string w A0 l.length l) (hc0 : l.length ≤ c0) (hr3 : Kd.C (Kd.int .u8) w A3 b.length b) (hc3 : b.length ≤ c3) (hT : Kd.C k28 w A1 t.length t) (hT1 : t.length ≤ c1) (hX : Kd.C Kd.string w A4 x.length x) (hX1 : x.length ≤ c4) (h : impl_Commit.f k l n s b u t a z x = some (r1, r2, r3, r4, r5, r6)) :
    Calls Try.prog 15 #[.agg #[.slice A0 l.length c0, .int .i64 n, .string s, .slice A3 b.length c3, .int .i64 u], .slice A1 t.length c1, .agg #[.int .i64 a, .string z], .slice A4 x.length c4] w fun e w' => ∃ v0_ v3_ : Value, e = .returned (.tuple #[.agg #[v0_, .int .i64 r2, .string r3, v3_, .int .i64 r5], .int .i64 r6]) ∧ Kd.R Kd.string 9 w' w.heap.size (fun _ => True) v0_ r1 ∧ Kd.R (Kd.int .u8) 5 w' w.heap.size (fun _ => True) v3_ r4 ∧ Below w.heap.size w w' := by
  have hu37 := Try.underlying37
  have hu28 := Try.underlying28
  have HR0 := Aside0.mk hr0
  have HC0 := Aside0.mk hc0
  have HR3 := Aside0.mk hr3
  have HC3 := Aside0.mk hc3
  have HT := Aside0.mk hT
  have HT1 := Aside0.mk hT1
  have HX := Aside0.mk hX
  have HX1 := Aside0.mk hX1
  have HB := Aside0.mk (Below.refl w.heap.size w)
  unfold impl_Commit.f at h
  replace h := bi_ h; obtain ⟨⟨q1, q2, q3, q4, q5⟩, AC, h⟩ := h
  dsimp only at h
  replace h := bi_ h; obtain ⟨q, AO, h⟩ := h
  clear hr0 hc0 hr3 hc3 hT hT1 hX hX1
  cases q with
  | false =>
    rw [if_neg (by simp)] at h
    replace h := so6_ h; obtain ⟨rfl, rfl, rfl, rfl, rfl, rfl⟩ := h
    go_enter Try.func15, Try.ntmps15
    go_wp2_with (first | ((with_reducible refine gd_ 4 ?_); refine bx_ 4 37 #[.slice A0 l.length c0, .int .i64 n, .string s, .slice A3 b.length c3, .int .i64 u] ?_; intro g4 hg w1 hbox hb; have B4 := Aside0.mk hbox; have G4 := gg_ hg HB; replace HB := ss_ HB hb; clear hb hbox hg) | ((with_reducible refine gd_ 6 ?_); refine bx_ 6 28 #[.int .i64 a, .string z] ?_; intro g6 hg w2 hbox hb; have B6 := Aside0.mk hbox; have G6 := gg_ hg HB; replace HB := ss_ HB hb; replace B4 := kl_ B4 hb; clear hb hbox hg) | ((with_reducible refine gd_ 8 ?_); refine bx_ 8 37 #[.slice none 0 0, .int .i64 0, .string (⟨#[]⟩ : ByteArray), .slice none 0 0, .int .i64 0] ?_; intro g8 hg w3 hbox hb; have B8 := Aside0.mk hbox; have G8 := gg_ hg HB; replace HB := ss_ HB hb; replace B4 := kl_ B4 hb; replace B6 := kl_ B6 hb; clear hb hbox hg; have hz4 := cz5_ B4) | ((with_reducible refine gq_ 65 13 ?_); refine gc_ 13 Try.func65 (impl_copyStore.calls _ _ l n s _ _ b u q1 q2 q3 q4 q5 _ (cb_ HR0 HB) HC0.out (cb_ HR3 HB) HC3.out AC.out) ?_; rintro e w4 ⟨v0, v3, rfl, ho, hp, hb⟩; refine ⟨_, rfl, ?_⟩; have HO := Aside0.mk (Kd.R_lower ho (sz_ HB)); have HP := Aside0.mk (Kd.R_lower hp (sz_ HB)); replace HB := ss_ HB hb; replace B4 := kl_ B4 hb; replace B6 := kl_ B6 hb; replace B8 := kl_ B8 hb; clear hb ho hp hz4; obtain ⟨Ao, co, eo⟩ := Kd.R_slice HO.out; subst eo; obtain ⟨Ap, cp, ep⟩ := Kd.R_slice HP.out; subst ep) | ((with_reducible refine gd_ 10 ?_); refine bx_ 10 37 #[.slice none 0 0, .int .i64 0, .string (⟨#[]⟩ : ByteArray), .slice none 0 0, .int .i64 0] ?_; intro g10 hg w5 hbox hb; have B10 := Aside0.mk hbox; have G10 := gg_ hg HB; have N4 := nla_ hg B4; have N6 := nla_ hg B6; have N8 := nla_ hg B8; replace HB := ss_ HB hb; replace B4 := kl_ B4 hb; replace B6 := kl_ B6 hb; replace B8 := kl_ B8 hb; replace HO := rb_ HO hb; replace HP := rb_ HP hb; clear hb hbox hg; have hz10 := cz5_ B10; have hz4 := cz5_ B4; have hn4 := N4.out; have hn4' := N4.out.symm) | ((with_reducible refine gq_ 19 15 ?_); refine gc_ 15 Try.func19 (impl_StoreOk.calls k _ _ l n s _ _ b u false _ (Kd.C_below HR0.out (bw_ HB)) HC0.out (Kd.C_below HR3.out (bw_ HB)) HC3.out AO.out) ?_; rintro e w6 ⟨rfl, hb⟩; refine ⟨_, rfl, ?_⟩; replace HO := rbf_ HO B10 hb; replace HP := rbf_ HP B10 hb; replace HB := ss_ HB hb; replace B6 := kp_ B6 hb; replace B8 := kp_ B8 hb; replace B10 := kp_ B10 hb; clear hb hz10 hz4 hn4 hn4'; have hz6 := cz2_ B6; have hz10 := cz5_ B10; have hz8 := cz5_ B8; have hn8 := N8.out; have hn8' := N8.out.symm))
    refine bodyPost_ret (results_ct rfl _ _ g8 37 #[.slice Ao q1.length co, .int .i64 q2, .string q3, .slice Ap q4.length cp, .int .i64 q5] (0, 0) _ rfl (by exact kq_ B8) Try.underlying37 rfl (by kernel_rfl)) rfl ?_
    exact ⟨_, _, rfl, kf_ HO B8, kf_ HP B8, bw_ HB⟩
  | true =>
    rw [if_pos rfl] at h
    replace h := bi_ h; obtain ⟨⟨y1, y2, y3, y4, y5⟩, AM, h⟩ := h
    dsimp only at h AM
    replace h := so6_ h; obtain ⟨rfl, rfl, rfl, rfl, rfl, rfl⟩ := h
    go_enter Try.func15, Try.ntmps15
    go_wp2_with (first | ((with_reducible refine gd_ 4 ?_); refine bx_ 4 37 #[.slice A0 l.length c0, .int .i64 n, .string s, .slice A3 b.length c3, .int .i64 u] ?_; intro g4 hg w1 hbox hb; have B4 := Aside0.mk hbox; have G4 := gg_ hg HB; replace HB := ss_ HB hb; clear hb hbox hg) | ((with_reducible refine gd_ 6 ?_); refine bx_ 6 28 #[.int .i64 a, .string z] ?_; intro g6 hg w2 hbox hb; have B6 := Aside0.mk hbox; have G6 := gg_ hg HB; replace HB := ss_ HB hb; replace B4 := kl_ B4 hb; clear hb hbox hg) | ((with_reducible refine gd_ 8 ?_); refine bx_ 8 37 #[.slice none 0 0, .int .i64 0, .string (⟨#[]⟩ : ByteArray), .slice none 0 0, .int .i64 0] ?_; intro g8 hg w3 hbox hb; have B8 := Aside0.mk hbox; have G8 := gg_ hg HB; replace HB := ss_ HB hb; replace B4 := kl_ B4 hb; replace B6 := kl_ B6 hb; clear hb hbox hg; have hz4 := cz5_ B4) | ((with_reducible refine gq_ 65 13 ?_); refine gc_ 13 Try.func65 (impl_copyStore.calls _ _ l n s _ _ b u q1 q2 q3 q4 q5 _ (cb_ HR0 HB) HC0.out (cb_ HR3 HB) HC3.out AC.out) ?_; rintro e w4 ⟨v0, v3, rfl, ho, hp, hb⟩; refine ⟨_, rfl, ?_⟩; have HO := Aside0.mk (Kd.R_lower ho (sz_ HB)); have HP := Aside0.mk (Kd.R_lower hp (sz_ HB)); replace HB := ss_ HB hb; replace B4 := kl_ B4 hb; replace B6 := kl_ B6 hb; replace B8 := kl_ B8 hb; clear hb ho hp hz4; obtain ⟨Ao, co, eo⟩ := Kd.R_slice HO.out; subst eo; obtain ⟨Ap, cp, ep⟩ := Kd.R_slice HP.out; subst ep) | ((with_reducible refine gd_ 10 ?_); refine bx_ 10 37 #[.slice none 0 0, .int .i64 0, .string (⟨#[]⟩ : ByteArray), .slice none 0 0, .int .i64 0] ?_; intro g10 hg w5 hbox hb; have B10 := Aside0.mk hbox; have G10 := gg_ hg HB; have N4 := nla_ hg B4; have N6 := nla_ hg B6; have N8 := nla_ hg B8; replace HB := ss_ HB hb; replace B4 := kl_ B4 hb; replace B6 := kl_ B6 hb; replace B8 := kl_ B8 hb; replace HO := rb_ HO hb; replace HP := rb_ HP hb; clear hb hbox hg; have hz10 := cz5_ B10; have hz4 := cz5_ B4; have hn4 := N4.out; have hn4' := N4.out.symm) | ((with_reducible refine gq_ 19 15 ?_); refine gc_ 15 Try.func19 (impl_StoreOk.calls k _ _ l n s _ _ b u true _ (Kd.C_below HR0.out (bw_ HB)) HC0.out (Kd.C_below HR3.out (bw_ HB)) HC3.out AO.out) ?_; rintro e w6 ⟨rfl, hb⟩; refine ⟨_, rfl, ?_⟩; replace HO := rbf_ HO B10 hb; replace HP := rbf_ HP B10 hb; replace HB := ss_ HB hb; replace B6 := kp_ B6 hb; replace B8 := kp_ B8 hb; replace B10 := kp_ B10 hb; clear hb hz10 hz4 hn4 hn4'; have hz6 := cz2_ B6; have hz10 := cz5_ B10; have hz8 := cz5_ B8; have hn8 := N8.out; have hn8' := N8.out.symm) | ((with_reducible refine gq_ 66 21 ?_); refine gc_ 21 Try.func66 (impl_Store_commit.calls k g10 Ao co q1 q2 q3 Ap cp q4 q5 _ _ t a z _ _ x y1 y2 y3 y4 y5 w _ G10.out B10.out (Kd.R_mono (Kd.R_types HO.out B10.out (by decide)) (fun _ h_ => h_.2)) (Kd.R_mono (Kd.R_types HP.out B10.out (by decide)) (fun _ h_ => h_.2)) (cb_ HT HB) HT1.out (cb_ HX HB) HX1.out HB.out AM.out) ?_; rintro e w7 ⟨rfl, A5, c5, A6, c6, ho, hp, hbk, hb, hk⟩; refine ⟨_, rfl, ?_⟩; replace B8 := Aside0.mk (blk_kept B8.out hk (fun hs => hs.elim (fun e => N8.out e) (fun e => (Kd.R_ne HP.out B8.out (by decide)) e))); replace B10 := Aside0.mk hbk; replace HB := Aside0.mk hb; replace HO := Aside0.mk ho; replace HP := Aside0.mk hp; clear hb hbk ho hp hk hz6 hz10 hz8 B6 N6; have hz10 := cz5_ B10; have hz8 := cz5_ B8))
    refine bodyPost_ret (results_ct rfl _ _ g8 37 #[.slice A5 y1.length c5, .int .i64 y2, .string y3, .slice A6 y4.length c6, .int .i64 q5] (0, 0) _ rfl (by exact kq_ B8) Try.underlying37 rfl (by kernel_rfl)) rfl ?_
    exact ⟨_, _, rfl, Kd.R_mono (kf_ HO B8) (fun _ _ => trivial), Kd.R_mono (kf_ HP B8) (fun _ _ => trivial), bw_ HB⟩
end Go.Proofs.Ytjnnglphdaemaaa.Q
end

section
/- A store whose bytes are commits, one behind the other, to the end, is right; what Commit makes of a right store. -/
namespace Go.Proofs.Ytjnnglphdaemaaa.Q
open Go.RowKit Go.Proofs.Ytjnnglphdaemaaa.B Go.Proofs.YtjnnglphdaemaaaW.PrintWords Go.Proofs.YtjnnglphdaemaaaW.PrintMore
set_option linter.unusedVariables false
set_option linter.unusedSimpArgs false
theorem read_at {b : List Int} (hb : InB b) (hl : b.length ≤ 60000) {a N : Nat} {s : ByteArray} {x : List ByteArray} {r : List Int} (ha : a ≤ b.length) (e : b.drop a = commitB N s x ++ r) (hk : headOk (N : Int) s = true) (hx1 : 1 ≤ x.length) (hx2 : x.length ≤ 200) (hsm : ∀ y ∈ x, y.size ≤ 1000000000) :
    Ev (fun q => impl_GetCommit.f q b (a : Int)) ((N : Int), s, x, ((a + (commitB N s x).length : Nat) : Int), true) := by
  obtain ⟨n, s', x', nx, ok', f3, _, c1, c2⟩ := getCommitI b hb (by omega) (a : Int) (by omega) (by omega)
  cases hok : ok' with
  | false => exact absurd ((c2 hok).2.2.2.2 a N s x r rfl e hk hx1 hx2 hsm) (by simp)
  | true =>
    obtain ⟨a', N', g1, rfl, g2, g3, g4, g5, g6⟩ := c1 hok
    have ea : a' = a := by omega
    subst ea
    obtain ⟨rfl, rfl, rfl, _⟩ := commitB_inj (e.symm.trans g4)
    rw [hok, g5] at f3
    exact f3
theorem good_few {t : List IHead} {l : List ByteArray} {N : Nat} {s : ByteArray} {x : List ByteArray} (hg : Good t l N s x) : (l ++ x).length ≤ 200 := by
  have h1 := headOk_is hg.1
  have h2 := hg.2.2.2
  rw [List.length_append]
  omega
theorem replay_opened (t : List IHead) (b : List Int) (hb : InB b) (hl : b.length ≤ 60000) (T : List ByteArray) (N0 : Int) (S0 : ByteArray) (U : Int) {l : List ByteArray} {bs : List Int} {L : List ByteArray} {m : List Int} {c : Nat} (o : Opened t l bs L m c) :
    m = bs → L = T → ∀ a : Nat, bs = b.drop a → a ≤ b.length → l.length ≤ 200 → (∀ x ∈ l, x.size ≤ bigB) → Ev (fun k => impl_StoreOk.l0 k l (a : Int) T N0 S0 b U) true := by
  induction o with
  | @stop l bs h =>
    intro hm hT a e ha h1 h2
    have hz : (b.drop a).length = 0 := by rw [← e, ← hm]; rfl
    rw [List.length_drop] at hz
    refine Ev.step (fun k => by simp only [impl_StoreOk.l0]; rfl) ?_
    refine Ev.neg (by omega) (Ev.bind (impl_same_ev l T (by omega)) ?_)
    rw [decide_eq_true hT]
    exact Ev.now _
  | @step l r L m c N s x hk hx1 hx2 hsm hg o ih =>
    intro hm hT a e ha h1 h2
    obtain ⟨e1, e2⟩ := take_more ha e.symm
    have hlen := commit_pos N s x
    have hdl : (b.drop a).length = b.length - a := List.length_drop
    have hcl : (commitB N s x).length ≤ b.length - a := by
      rw [← hdl, ← e, List.length_append]
      omega
    have w1 := commitB_length N s x
    have w2 := bodyB_ge N s x
    have htx : ∀ y ∈ x, y.size ≤ bigB := fun y hy => by
      have w3 := total_mem hy
      unfold bigB
      omega
    have hfew := good_few hg
    have hgh := hg.2.2.1
    unfold isHead at hgh
    have hi := ih (List.append_cancel_left hm) hT (a + (commitB N s x).length) e2 (by omega) hfew (sizes_app h2 htx)
    refine Ev.step (fun k => by simp only [impl_StoreOk.l0]; rfl) ?_
    refine Ev.pos (by omega) (Ev.bind (read_at hb hl ha e.symm hk hx1 hx2 hsm) ?_)
    simp only
    refine Ev.pos (by rw [List.length_append] at hfew; omega) ?_
    simp only [Option.bind_some]
    refine Ev.pos trivial (Ev.bind (impl_HeadOf_ev (l ++ x) (sizes_app h2 htx)) (Ev.neg ?_ hi))
    rw [ne_head, hgh]
    simp
theorem opened_sizes {t : List IHead} {l : List ByteArray} {bs : List Int} {L : List ByteArray} {m : List Int} {c : Nat} (o : Opened t l bs L m c) : bs.length ≤ 60000 → l.length ≤ 200 → (∀ x ∈ l, x.size ≤ bigB) → L.length ≤ 200 ∧ (∀ x ∈ L, x.size ≤ bigB) := by
  induction o with
  | stop h => exact fun _ h1 h2 => ⟨h1, h2⟩
  | @step l r L m c N s x hk hx1 hx2 hsm hg o ih =>
    intro h0 h1 h2
    rw [List.length_append] at h0
    have w1 := commitB_length N s x
    have w2 := bodyB_ge N s x
    exact ih (by omega) (good_few hg) (sizes_app h2 (fun y hy => by
      have w3 := total_mem hy
      unfold bigB
      omega))
theorem storeOk_opened (t : List IHead) (b : List Int) (hb : InB b) (hl : b.length ≤ 60000) {L : List ByteArray} {c : Nat} (o : Opened t [] b L b c) (u : Int) (h0 : 0 ≤ u) (h1 : u ≤ b.length) : Ev (fun k => impl_StoreOk.f k L (headOf L).1 (headOf L).2 b u) true := by
  obtain ⟨hL, hs⟩ := opened_sizes o hl (by simp) (by simp)
  unfold impl_StoreOk.f
  refine Ev.bind (impl_LogOk_ev L _ _ hs) (Ev.pos (logOk_head hL) (Ev.neg (by omega) (Ev.bind (Ev.const (impl_in_eq _ _ _)) ?_)))
  rw [decide_eq_true ⟨h0, h1⟩]
  refine Ev.step (fun k => by simp only [impl_StoreOk.j0]; rfl) ?_
  exact Ev.neg (by simp) (replay_opened t b hb hl L _ _ u o rfl rfl 0 rfl (by omega) (by simp) (by simp))
theorem opened_nil (t : List IHead) (l : List ByteArray) : Opened t l [] l [] 0 := .stop (fun N s x r e _ _ _ _ _ => by
  have := commit_pos N s x
  have h2 : ([] : List Int).length = (commitB N s x ++ r).length := by rw [← e]
  rw [List.length_append, List.length_nil] at h2
  omega)
/-- Commit of a right store, where its texts are good and fit. -/
theorem commit_good (t : List IHead) (ht : t.length ≤ 9223372036854775807) (b : List Int) (hb : InB b) {L : List ByteArray} {c : Nat} (o : Opened t [] b L b c) (u : Int) (h0 : 0 ≤ u) (h1 : u ≤ b.length) {N : Nat} {s : ByteArray} {x : List ByteArray} (hx1 : 1 ≤ x.length) (hx2 : x.length ≤ 200) (hg : Good t L N s x) (hf : b.length + (commitB N s x).length ≤ 60000) :
    Ev (fun k => impl_Commit.f k L (headOf L).1 (headOf L).2 b u t (N : Int) s x) (L ++ x, (N : Int), s, b ++ commitB N s x, u, 0) := by
  obtain ⟨hL, hs⟩ := opened_sizes o (by omega) (by simp) (by simp)
  have w1 := commitB_length N s x
  have w2 := bodyB_ge N s x
  have ht0 := total_nonneg x
  have htx : ∀ y ∈ x, y.size ≤ bigB := fun y hy => by
    have w3 := total_mem hy
    unfold bigB
    omega
  have hsm : ∀ y ∈ x, y.size ≤ 1000000000 := fun y hy => by
    have w3 := total_mem hy
    omega
  have hP := PutCommit_val (N : Int) s x (by omega) (by omega) hsm
  rw [if_pos ⟨hg.1, hx1, hx2⟩, Int.toNat_natCast] at hP
  have hE := impl_extend_ev t L (headOf L).1 (headOf L).2 (N : Int) s x ht (sizes_app hs htx) (by omega)
  rw [ext_good hx1 hg] at hE
  unfold impl_Commit.f
  rw [impl_copyStore_eq L _ _ b u (by omega) (by omega)]
  simp only [Option.bind_some]
  refine Ev.bind (storeOk_opened t b hb (by omega) o u h0 h1) (Ev.pos rfl ?_)
  have hC : Ev (fun k => impl_Store_commit.f k L (headOf L).1 (headOf L).2 b u t (N : Int) s x) (L ++ x, (N : Int), s, b ++ commitB N s x, 0) := by
    unfold impl_Store_commit.f
    refine Ev.bind hP (Ev.neg ?_ (Ev.bind hE (Ev.pos rfl (Ev.pos (by omega) (Ev.now _)))))
    rw [w64 (by omega) (by omega)]
    omega
  exact Ev.bind hC (Ev.now _)
/-- Bytes of commits with one more behind them. -/
theorem opened_more {t : List IHead} {l : List ByteArray} {b : List Int} {L : List ByteArray} {m : List Int} {c : Nat} (o : Opened t l b L m c) : m = b → ∀ {N : Nat} {s : ByteArray} {x : List ByteArray}, 1 ≤ x.length → x.length ≤ 200 → (∀ y ∈ x, y.size ≤ 1000000000) → Good t L N s x → Opened t l (b ++ commitB N s x) (L ++ x) (b ++ commitB N s x) (c + 1) := by
  induction o with
  | @stop l bs h =>
    intro hm N s x h1 h2 h3 hg
    subst hm
    have := Opened.step hg.1 h1 h2 h3 hg (opened_nil t (l ++ x))
    rw [List.append_nil] at this
    rw [List.nil_append]
    exact this
  | @step l r L m c N' s' x' hk hx1 hx2 hsm hg' o ih =>
    intro hm N s x h1 h2 h3 hg
    have e := List.append_cancel_left hm
    have := Opened.step hk hx1 hx2 hsm hg' (ih e h1 h2 h3 hg)
    rw [← List.append_assoc] at this
    exact this
end Go.Proofs.Ytjnnglphdaemaaa.Q
end

section
-- Written by a program of this session (wip/tools/pp.sh) over the print of the kit.
namespace Go.Proofs.Ytjnnglphdaemaaa.Q
open Go.RowKit Go.Proofs.YtjnnglphdaemaaaW.PrintWords Go.Proofs.YtjnnglphdaemaaaW.PrintLast Go.Proofs.YtjnnglphdaemaaaW.PrintMore
attribute [local go_sem] max2_int min2_int max_two min_two max_three min_three max_four min_four   -- for this text's walks alone
set_option linter.unusedVariables false
set_option linter.unusedSimpArgs false
def IsS111 (w0 W : World) (g : Nat) (f0 : List Int) (f1 : Int) (f2 : Int) : Prop := ∃ A0 c0, W.heap[g]? = some (.cells #[.slice A0 f0.length c0, .int .i64 f1, .int .i64 f2] 111 (0, 0)) ∧ w0.heap.size ≤ g ∧ Kd.C (Kd.int .u8) w0 A0 f0.length f0 ∧ f0.length ≤ c0
theorem IsS111.grown {w0 W : World} {g : Nat} {f0 : List Int} {f1 : Int} {f2 : Int} {W1 : World} {row : Option Nat} (h : IsS111 w0 W g f0 f1 f2) (hw : W.grownBy W1 row) (hne : some g ≠ row) : IsS111 w0 W1 g f0 f1 f2 := by
 obtain ⟨A0, c0, hb, hg, hr0, hq0⟩ := h
 exact ⟨A0, c0, blk_grown hb hw hne, hg, hr0, hq0⟩
theorem IsS111.kept {w0 W : World} {g : Nat} {f0 : List Int} {f1 : Int} {f2 : Int} {W1 : World} {S : Nat → Prop} (h : IsS111 w0 W g f0 f1 f2) (hk : Kept W W1 S) (hne : ¬ S g) : IsS111 w0 W1 g f0 f1 f2 := by
 obtain ⟨A0, c0, hb, hg, hr0, hq0⟩ := h
 exact ⟨A0, c0, blk_kept hb hk hne, hg, hr0, hq0⟩
theorem IsS111.below {w0 W : World} {g : Nat} {f0 : List Int} {f1 : Int} {f2 : Int} {W1 : World} (h : IsS111 w0 W g f0 f1 f2) (hw : Below W.heap.size W W1) : IsS111 w0 W1 g f0 f1 f2 := h.grown (grown_of_below hw none) (by simp)
theorem IsS111.alloc {w0 W : World} {g : Nat} {f0 : List Int} {f1 : Int} {f2 : Int} (h : IsS111 w0 W g f0 f1 f2) (o : Obj) : IsS111 w0 (W.alloc o) g f0 f1 f2 := h.below (below_alloc (Below.refl _ _) o)
theorem IsS111.drewN {w0 W : World} {g : Nat} {f0 : List Int} {f1 : Int} {f2 : Int} (h : IsS111 w0 W g f0 f1 f2) (m : Nat) : IsS111 w0 (W.drewN m) g f0 f1 f2 := h
theorem IsS111.drew {w0 W : World} {g : Nat} {f0 : List Int} {f1 : Int} {f2 : Int} (h : IsS111 w0 W g f0 f1 f2) : IsS111 w0 W.drew g f0 f1 f2 := h
theorem IsS111.at_ {w0 W : World} {g : Nat} {f0 : List Int} {f1 : Int} {f2 : Int} {w' : World} {m : Nat} (hq : W.drewN m = w') (h : IsS111 w0 W g f0 f1 f2) : IsS111 w0 w' g f0 f1 f2 := by subst hq; exact IsS111.drewN h m
theorem IsS111.apart {w0 W : World} {g : Nat} {f0 : List Int} {f1 : Int} {f2 : Int} {α : Type} {d : Kd α} {e : Nat} {base : Nat} {ok : Nat → Prop} {v : Value} {xs : List α} (h : IsS111 w0 W g f0 f1 f2) (ho : d.R e W base ok v xs) (ht : ∀ q, q ∈ e :: d.E → q ≠ 111) : d.R e W base (fun k => ok k ∧ k ≠ g) v xs := by
 obtain ⟨A0, c0, hb, hg, hr0, hq0⟩ := h
 exact Kd.R_types ho hb ht
theorem IsS111.own_ne {w0 W : World} {g : Nat} {f0 : List Int} {f1 : Int} {f2 : Int} {α : Type} {d : Kd α} {e : Nat} {base : Nat} {ok : Nat → Prop} {v : Value} {xs : List α} (h : IsS111 w0 W g f0 f1 f2) (ho : d.R e W base ok v xs) (ht : e ≠ 111) : some g ≠ v.ownBlock := by
 obtain ⟨A0, c0, hb, hg, hr0, hq0⟩ := h
 exact Kd.R_ne ho hb ht
theorem IsS111.lt {w0 W : World} {g : Nat} {f0 : List Int} {f1 : Int} {f2 : Int} (h : IsS111 w0 W g f0 f1 f2) : g < W.heap.size := by
 obtain ⟨A0, c0, hb, hg, hr0, hq0⟩ := h
 exact blk_lt hb
theorem IsS111.ge {w0 W : World} {g : Nat} {f0 : List Int} {f1 : Int} {f2 : Int} (h : IsS111 w0 W g f0 f1 f2) : w0.heap.size ≤ g := by
 obtain ⟨A0, c0, hb, hg, hr0, hq0⟩ := h
 exact hg
theorem IsS111.far {w0 W : World} {g : Nat} {f0 : List Int} {f1 : Int} {f2 : Int} {p : Addr} (h : IsS111 w0 W g f0 f1 f2) (hne : g ≠ p.block) (u : Value) : IsS111 w0 (W.setCell p u) g f0 f1 f2 := by
 obtain ⟨A0, c0, hb, hg, hr0, hq0⟩ := h
 exact ⟨A0, c0, blk_far hb hne u, hg, hr0, hq0⟩
theorem cellS111_0 {W : World} {g : Nat} {A0 : Option Addr} {c0 : Nat} {f0 : List Int} {f1 : Int} {f2 : Int} (h : W.heap[g]? = some (.cells #[.slice A0 f0.length c0, .int .i64 f1, .int .i64 f2] 111 (0, 0))) : W.cell? ⟨g, 0, none⟩ = some (.slice A0 f0.length c0) := (blk_cell h 0).trans rfl
theorem cellS111_1 {W : World} {g : Nat} {A0 : Option Addr} {c0 : Nat} {f0 : List Int} {f1 : Int} {f2 : Int} (h : W.heap[g]? = some (.cells #[.slice A0 f0.length c0, .int .i64 f1, .int .i64 f2] 111 (0, 0))) : W.cell? ⟨g, 1, none⟩ = some (.int .i64 f1) := (blk_cell h 1).trans rfl
theorem IsS111.set_1 {w0 W : World} {g : Nat} {f0 : List Int} {f1 : Int} {f2 : Int} (h : IsS111 w0 W g f0 f1 f2) (x : Int) : IsS111 w0 (W.setCell ⟨g, 1, none⟩ (.int .i64 x)) g f0 x f2 := by
 obtain ⟨A0, c0, hb, hg, hr0, hq0⟩ := h
 exact ⟨A0, c0, by simpa using blk_set hb 1 (.int .i64 x), hg, hr0, hq0⟩
theorem cellS111_2 {W : World} {g : Nat} {A0 : Option Addr} {c0 : Nat} {f0 : List Int} {f1 : Int} {f2 : Int} (h : W.heap[g]? = some (.cells #[.slice A0 f0.length c0, .int .i64 f1, .int .i64 f2] 111 (0, 0))) : W.cell? ⟨g, 2, none⟩ = some (.int .i64 f2) := (blk_cell h 2).trans rfl
theorem IsS111.set_2 {w0 W : World} {g : Nat} {f0 : List Int} {f1 : Int} {f2 : Int} (h : IsS111 w0 W g f0 f1 f2) (x : Int) : IsS111 w0 (W.setCell ⟨g, 2, none⟩ (.int .i64 x)) g f0 f1 x := by
 obtain ⟨A0, c0, hb, hg, hr0, hq0⟩ := h
 exact ⟨A0, c0, by simpa using blk_set hb 2 (.int .i64 x), hg, hr0, hq0⟩
theorem IsS111.new (w0 W : World) (A0 : Option Addr) (c0 : Nat) (f0 : List Int) (f1 : Int) (f2 : Int) (hB : Below w0.heap.size w0 W) (hr0 : Kd.C (Kd.int .u8) w0 A0 f0.length f0) (hq0 : f0.length ≤ c0) : IsS111 w0 (W.alloc (.cells #[.slice A0 f0.length c0, .int .i64 f1, .int .i64 f2] 111)) W.heap.size f0 f1 f2 := ⟨A0, c0, by simpa using heap_alloc_new W _, hB.size, hr0, hq0⟩
def spec_l1New.l0 : Nat → List Int → Int → Int → Option (List Int × Int × Int)
 | 0, _, _, _ => none
 | k + 1, x0, x3, x4 => if x4 < (x0.length : Int) then (if x4 < 4000 then (if 0 ≤ x4 then (spec_l1New.l0 k x0 (Go.bits .and .i64 (wrap64 ((wrap64 ((wrap64 (x3 * 137)) + (wrap64 (rd x0 x4)))) + 11)) 1073741823) (wrap64 (x4 + 1))) else (none)) else (some (x0, 0, x3))) else (some (x0, 0, x3))
def spec_l1New.f (k : Nat) (l0 : List Int) : Option (List Int × Int × Int) := spec_l1New.l0 k l0 (wrap64 (372372 + (l0.length : Int))) 0
theorem spec_l1New.mono_l : ∀ k, (∀ y0 y1 y2, LeO (spec_l1New.l0 k y0 y1 y2) (spec_l1New.l0 (k + 1) y0 y1 y2))
 | 0 => fun _ _ _ r h => by simp [spec_l1New.l0] at h
 | k + 1 => by
  have ih0 := spec_l1New.mono_l k
  ·intro y0 y1 y2
   unfold spec_l1New.l0
   repeat' (with_reducible first | exact LeO.refl _ | exact LeO.none _ | apply ih0 | apply LeO.ite | refine LeO.bind ?_ fun _ => ?_)
theorem spec_l1New.mono : ∀ a0 k, LeO (spec_l1New.f k a0) (spec_l1New.f (k + 1) a0) := by
 intro a0 k
 have ih0 := spec_l1New.mono_l k
 unfold spec_l1New.f
 repeat' (with_reducible first | exact LeO.refl _ | exact LeO.none _ | apply ih0 | apply LeO.ite | refine LeO.bind ?_ fun _ => ?_)
set_option maxHeartbeats 8000000 in
set_option maxRecDepth 100000 in
theorem spec_l1New.calls (k : Nat) (A0 : Option Addr) (c0 : Nat) (l0 : List Int) (r1 : List Int) (r2 : Int) (r3 : Int) (w0 w : World) (hB : Below w0.heap.size w0 w) (hr0 : Kd.C (Kd.int .u8) w0 A0 l0.length l0) (hc0 : l0.length ≤ c0) (h : spec_l1New.f k l0 = some (r1, r2, r3)) :
  Calls Try.prog 59 #[.slice A0 l0.length c0] w fun e w' => ∃ g_ : Nat, e = .returned (.pointer (some ⟨g_, 0, none⟩)) ∧ IsS111 w0 w' g_ r1 r2 r3 ∧ Below w0.heap.size w0 w' ∧ Below w.heap.size w w' := by
 have hu111 := Try.underlying111
 have HR0 := Aside0.mk hr0
 have HC0 := Aside0.mk hc0
 clear hr0 hc0
 have HBW := Aside0.mk (Below.refl w.heap.size w)
 have HW0 := Aside0.mk hB.size
 have HB := Aside0.mk hB
 clear hB
 have H : (spec_l1New.l0 k l0 (wrap64 (372372 + (l0.length : Int))) 0) = some (r1, r2, r3) := h
 clear h
 have H' := Aside0.mk H
 clear H
 go_enter Try.func59, Try.ntmps59
 go_wp2
 go_loopg [3, 4] k (fun kq v3 v4 w' => ∃ (x3_1 : Int) (x4_1 : Int), v3 = .int .i64 x3_1 ∧ v4 = .int .i64 x4_1 ∧ Aside0 (spec_l1New.l0 kq l0 x3_1 x4_1 = some (r1, r2, r3)) ∧ Aside0 (kq ≤ k) ∧ Aside0 (Below w0.heap.size w0 w') ∧ Aside0 (Below w.heap.size w w'))
 case atStart => exact ⟨(wrap64 (372372 + (l0.length : Int))), (0), e1_, e1_, H', ⟨Nat.le_refl _⟩, ⟨bw_ HB⟩, ⟨by repeat (first | (with_reducible first | exact HBW.out | apply below_alloc | apply pw_below_drewN | apply below_drew1) | exact HBW.out)⟩⟩
 case round =>
  clear H'
  obtain ⟨x3_1, x4_1, rfl, rfl, HA, HK1, HB, HBW⟩ := hrel
  cases gk with
  | zero => exact absurd HA.out (by simp [spec_l1New.l0])
  | succ k1 =>
   have H := HA.out
   clear HA
   simp only [spec_l1New.l0] at H
   replace H := itd_ H; obtain ⟨c2b0, H⟩ | ⟨c2b0, H⟩ := H
   ·replace H := itd_ H; obtain ⟨c3b0, H⟩ | ⟨c3b0, H⟩ := H
    ·replace H := ipd_ H; obtain ⟨c4b0, H⟩ := H
     have H' := Aside0.mk H
     clear H
     have p601 : 0 ≤ (x4_1 : Int) := of_decide_eq_true as_
     have q601 : x4_1 < (l0.length : Int) := of_decide_eq_true as_
     obtain ⟨ad601, e601, hx601_0⟩ := Kd.at_int HR0.out x4_1 p601 q601
     cases e601
     replace hx601_0 := pw_cell_below HB.out hx601_0
     replace p601 := eq_true p601
     replace q601 := eq_true q601
     go_wp2
     go_roundg k1
     case measure => have := HK1.out; omega
     case rel => exact ⟨(Go.bits .and .i64 (wrap64 ((wrap64 ((wrap64 (x3_1 * 137)) + (wrap64 (rd l0 x4_1)))) + 11)) 1073741823), (wrap64 (x4_1 + 1)), e1_, e1_, H', ⟨by have := HK1.out; omega⟩, ⟨bw_ HB⟩, ⟨by repeat (first | (with_reducible first | exact HBW.out | apply below_alloc | apply pw_below_drewN | apply below_drew1) | exact HBW.out)⟩⟩
    ·replace H := so3_ H; obtain ⟨rfl, rfl, rfl⟩ := H
     go_wp2_with (first | ((with_reducible refine gd_ 31 ?_); refine bx_ 31 111 #[.slice A0 l0.length c0, .int .i64 0, .int .i64 x3_1] ?_; intro gb602 hg w5 hbox hb; replace HB := ss_ HB hb; have BK602 := Aside0.mk hbox; have GW602 := Aside0.mk ((by rw [hg]; exact (below_size (by repeat (first | (with_reducible first | exact HBW.out | apply below_alloc | apply pw_below_drewN | apply below_drew1) | exact HBW.out))) : w.heap.size ≤ gb602)); have GE602 := Aside0.mk ((Nat.le_trans HW0.out (by rw [hg]; exact (below_size (by repeat (first | (with_reducible first | exact HBW.out | apply below_alloc | apply pw_below_drewN | apply below_drew1) | exact HBW.out))) : w.heap.size ≤ gb602) : w0.heap.size ≤ gb602)); replace HBW := Aside0.mk (below_step HBW.out hb); clear hb hbox hg))
     go_ret
     exact ⟨_, rfl, (show IsS111 w0 _ gb602 l0 0 x3_1 from ⟨_, _, kb_ BK602.out, GE602.out, HR0.out, HC0.out⟩), bw_ HB, by repeat (first | (with_reducible first | exact HBW.out | apply below_alloc | apply pw_below_drewN | apply below_drew1 | refine below_set ?_ GW602.out) | exact HBW.out)⟩
   ·replace H := so3_ H; obtain ⟨rfl, rfl, rfl⟩ := H
    go_wp2_with (first | ((with_reducible refine gd_ 31 ?_); refine bx_ 31 111 #[.slice A0 l0.length c0, .int .i64 0, .int .i64 x3_1] ?_; intro gb603 hg w6 hbox hb; replace HB := ss_ HB hb; have BK603 := Aside0.mk hbox; have GW603 := Aside0.mk ((by rw [hg]; exact (below_size (by repeat (first | (with_reducible first | exact HBW.out | apply below_alloc | apply pw_below_drewN | apply below_drew1) | exact HBW.out))) : w.heap.size ≤ gb603)); have GE603 := Aside0.mk ((Nat.le_trans HW0.out (by rw [hg]; exact (below_size (by repeat (first | (with_reducible first | exact HBW.out | apply below_alloc | apply pw_below_drewN | apply below_drew1) | exact HBW.out))) : w.heap.size ≤ gb603) : w0.heap.size ≤ gb603)); replace HBW := Aside0.mk (below_step HBW.out hb); clear hb hbox hg))
    go_ret
    exact ⟨_, rfl, (show IsS111 w0 _ gb603 l0 0 x3_1 from ⟨_, _, kb_ BK603.out, GE603.out, HR0.out, HC0.out⟩), bw_ HB, by repeat (first | (with_reducible first | exact HBW.out | apply below_alloc | apply pw_below_drewN | apply below_drew1 | refine below_set ?_ GW603.out) | exact HBW.out)⟩
end Go.Proofs.Ytjnnglphdaemaaa.Q
end

section
-- Written by a program of this session (wip/tools/pp.sh) over the print of the kit.
namespace Go.Proofs.Ytjnnglphdaemaaa.Q
open Go.RowKit Go.Proofs.YtjnnglphdaemaaaW.PrintWords Go.Proofs.YtjnnglphdaemaaaW.PrintLast Go.Proofs.YtjnnglphdaemaaaW.PrintMore
attribute [local go_sem] max2_int min2_int max_two min_two max_three min_three max_four min_four   -- for this text's walks alone
set_option linter.unusedVariables false
set_option linter.unusedSimpArgs false
def spec_l1Byte.f (s0_0 : List Int) (s0_1 : Int) (s0_2 : Int) : Option (Int × Int × Int) := if s0_1 < (s0_0.length : Int) then (if 0 ≤ s0_1 then (some (Go.bits .and .i64 (wrap64 ((Go.bits .and .i64 (Go.bits .xor .i64 ((wrap64 ((wrap64 (s0_2 * 6364136223846793005)) + 1442695040888963407)) / 8589934592) ((wrap64 ((wrap64 (s0_2 * 6364136223846793005)) + 1442695040888963407)) / 140737488355328)) 255) + (wrap64 (rd s0_0 s0_1)))) 255, wrap64 (s0_1 + 1), wrap64 ((wrap64 (s0_2 * 6364136223846793005)) + 1442695040888963407))) else (none)) else (some (Go.bits .and .i64 (Go.bits .xor .i64 ((wrap64 ((wrap64 (s0_2 * 6364136223846793005)) + 1442695040888963407)) / 8589934592) ((wrap64 ((wrap64 (s0_2 * 6364136223846793005)) + 1442695040888963407)) / 140737488355328)) 255, s0_1, wrap64 ((wrap64 (s0_2 * 6364136223846793005)) + 1442695040888963407)))
set_option maxHeartbeats 8000000 in
set_option maxRecDepth 100000 in
theorem spec_l1Byte.calls (g : Nat) (s0_0 : List Int) (s0_1 : Int) (s0_2 : Int) (r1 : Int) (r2 : Int) (r3 : Int) (w0 w : World) (hI : IsS111 w0 w g s0_0 s0_1 s0_2) (hB : Below w0.heap.size w0 w) (h : spec_l1Byte.f s0_0 s0_1 s0_2 = some (r1, r2, r3)) :
  Calls Try.prog 100 #[.pointer (some ⟨g, 0, none⟩)] w fun e w' => e = .returned (.int .i64 r1) ∧ IsS111 w0 w' g s0_0 r2 r3 ∧ Below w0.heap.size w0 w' ∧ KeepBut w w' g none := by
 have HI0 := Aside0.mk hI
 have HK := Aside0.mk (KeepBut.refl w g none)
 have HL := Aside0.mk hB.size
 clear hI
 have HW0 := Aside0.mk hB.size
 have HB := Aside0.mk hB
 clear hB
 have H : (if s0_1 < (s0_0.length : Int) then (if 0 ≤ s0_1 then (some (Go.bits .and .i64 (wrap64 ((Go.bits .and .i64 (Go.bits .xor .i64 ((wrap64 ((wrap64 (s0_2 * 6364136223846793005)) + 1442695040888963407)) / 8589934592) ((wrap64 ((wrap64 (s0_2 * 6364136223846793005)) + 1442695040888963407)) / 140737488355328)) 255) + (wrap64 (rd s0_0 s0_1)))) 255, wrap64 (s0_1 + 1), wrap64 ((wrap64 (s0_2 * 6364136223846793005)) + 1442695040888963407))) else (none)) else (some (Go.bits .and .i64 (Go.bits .xor .i64 ((wrap64 ((wrap64 (s0_2 * 6364136223846793005)) + 1442695040888963407)) / 8589934592) ((wrap64 ((wrap64 (s0_2 * 6364136223846793005)) + 1442695040888963407)) / 140737488355328)) 255, s0_1, wrap64 ((wrap64 (s0_2 * 6364136223846793005)) + 1442695040888963407)))) = some (r1, r2, r3) := h
 clear h
 replace H := itd_ H; obtain ⟨c2b0, H⟩ | ⟨c2b0, H⟩ := H
 ·replace H := ipd_ H; obtain ⟨c3b0, H⟩ := H
  replace H := so3_ H; obtain ⟨rfl, rfl, rfl⟩ := H
  obtain ⟨ASz4_0, cSz4_0, HGz4, hgz4, HSz4_0, HSQz4_0⟩ := HI0.out
  have hcz4_0 := cellS111_0 HGz4
  have hcz4_1 := cellS111_1 HGz4
  have hcz4_2 := cellS111_2 HGz4
  have hfz4_1 := blk_frozen HGz4 1
  have hfz4_2 := blk_frozen HGz4 2
  clear HGz4 hgz4
  have p601 : 0 ≤ (s0_1 : Int) := of_decide_eq_true as_
  have q601 : s0_1 < (s0_0.length : Int) := of_decide_eq_true as_
  obtain ⟨ad601, e601, hx601_0⟩ := Kd.at_int HSz4_0 s0_1 p601 q601
  cases e601
  have hn601_0 : ad601.block ≠ g := Nat.ne_of_lt (Nat.lt_of_lt_of_le (by have := World.block_lt_of_cell? _ _ hx601_0; first | rwa [add_block] at this | exact this) (IsS111.ge HI0.out))
  replace hx601_0 := pw_cell_below HB.out hx601_0
  replace hx601_0 := (cell_far (p := ⟨g, 2, none⟩) (by first | (rw [add_block]; exact hn601_0) | (show (Addr.add _ _).block ≠ _; rw [add_block]; exact hn601_0) | exact hn601_0) (.int .i64 (wrap64 ((wrap64 (s0_2 * 6364136223846793005)) + 1442695040888963407)))).trans hx601_0
  (try have hy601_0 := fun (n_ : Nat) => (show (((w.drewN n_).setCell ⟨g, 2, none⟩ (.int .i64 (wrap64 ((wrap64 (s0_2 * 6364136223846793005)) + 1442695040888963407))))).cell? _ = some _ from hx601_0))
  clear hn601_0
  replace p601 := eq_true p601
  replace q601 := eq_true q601
  go_enter Try.func100, Try.ntmps100
  go_wp2
  repeat (go_quiet (fail); try go_wp2)
  go_ret
  exact ⟨e2_, by repeat (first | (with_reducible first | exact HI0.out | apply IsS111.alloc | apply IsS111.drewN | apply IsS111.drew | apply IsS111.set_1 | apply IsS111.set_2) | exact HI0.out), by repeat (first | (with_reducible first | exact HB.out | apply below_alloc | apply pw_below_drewN | apply below_drew1 | refine below_set ?_ (IsS111.ge HI0.out)) | exact HB.out), by repeat (first | (with_reducible first | exact HK.out | apply KeepBut.set_ | apply keep_drewN | apply keep_drew | apply keep_alloc) | exact HK.out)⟩
 ·replace H := so3_ H; obtain ⟨rfl, rfl, rfl⟩ := H
  obtain ⟨ASz5_0, cSz5_0, HGz5, hgz5, HSz5_0, HSQz5_0⟩ := HI0.out
  have hcz5_0 := cellS111_0 HGz5
  have hcz5_1 := cellS111_1 HGz5
  have hcz5_2 := cellS111_2 HGz5
  have hfz5_1 := blk_frozen HGz5 1
  have hfz5_2 := blk_frozen HGz5 2
  clear HGz5 hgz5
  go_enter Try.func100, Try.ntmps100
  go_wp2
  repeat (go_quiet (fail); try go_wp2)
  go_ret
  exact ⟨e2_, by repeat (first | (with_reducible first | exact HI0.out | apply IsS111.alloc | apply IsS111.drewN | apply IsS111.drew | apply IsS111.set_1 | apply IsS111.set_2) | exact HI0.out), by repeat (first | (with_reducible first | exact HB.out | apply below_alloc | apply pw_below_drewN | apply below_drew1 | refine below_set ?_ (IsS111.ge HI0.out)) | exact HB.out), by repeat (first | (with_reducible first | exact HK.out | apply KeepBut.set_ | apply keep_drewN | apply keep_drew | apply keep_alloc) | exact HK.out)⟩
end Go.Proofs.Ytjnnglphdaemaaa.Q
end

section
-- Written by a program of this session (wip/tools/pp.sh) over the print of the kit.
namespace Go.Proofs.Ytjnnglphdaemaaa.Q
open Go.RowKit Go.Proofs.YtjnnglphdaemaaaW.PrintWords Go.Proofs.YtjnnglphdaemaaaW.PrintLast Go.Proofs.YtjnnglphdaemaaaW.PrintMore
attribute [local go_sem] max2_int min2_int max_two min_two max_three min_three max_four min_four   -- for this text's walks alone
set_option linter.unusedVariables false
set_option linter.unusedSimpArgs false
def spec_l1Below.f (s0_0 : List Int) (s0_1 : Int) (s0_2 : Int) (a1 : Int) : Option (Int × Int × Int) := if a1 ≤ 0 then (some (0, s0_1, s0_2)) else (if a1 ≤ 256 then ((spec_l1Byte.f s0_0 s0_1 s0_2).bind fun bt601 => (if a1 = 0 then (none) else (some (Int.tmod bt601.1 a1, bt601.2.1, bt601.2.2)))) else ((spec_l1Byte.f s0_0 s0_1 s0_2).bind fun bt604 => ((spec_l1Byte.f s0_0 bt604.2.1 bt604.2.2).bind fun bt607 => ((spec_l1Byte.f s0_0 bt607.2.1 bt607.2.2).bind fun bt610 => (if a1 = 0 then (none) else (some (Int.tmod (wrap64 ((wrap64 ((wrap64 (bt604.1 * 65536)) + (wrap64 (bt607.1 * 256)))) + bt610.1)) a1, bt610.2.1, bt610.2.2)))))))
set_option maxHeartbeats 8000000 in
set_option maxRecDepth 100000 in
theorem spec_l1Below.calls (g : Nat) (s0_0 : List Int) (s0_1 : Int) (s0_2 : Int) (a1 : Int) (r1 : Int) (r2 : Int) (r3 : Int) (w0 w : World) (hI : IsS111 w0 w g s0_0 s0_1 s0_2) (hB : Below w0.heap.size w0 w) (h : spec_l1Below.f s0_0 s0_1 s0_2 a1 = some (r1, r2, r3)) :
  Calls Try.prog 61 #[.pointer (some ⟨g, 0, none⟩), .int .i64 a1] w fun e w' => e = .returned (.int .i64 r1) ∧ IsS111 w0 w' g s0_0 r2 r3 ∧ Below w0.heap.size w0 w' ∧ KeepBut w w' g none := by
 have HI0 := Aside0.mk hI
 have HK := Aside0.mk (KeepBut.refl w g none)
 have HL := Aside0.mk hB.size
 clear hI
 have HW0 := Aside0.mk hB.size
 have HB := Aside0.mk hB
 clear hB
 have H : (if a1 ≤ 0 then (some (0, s0_1, s0_2)) else (if a1 ≤ 256 then ((spec_l1Byte.f s0_0 s0_1 s0_2).bind fun bt601 => (if a1 = 0 then (none) else (some (Int.tmod bt601.1 a1, bt601.2.1, bt601.2.2)))) else ((spec_l1Byte.f s0_0 s0_1 s0_2).bind fun bt604 => ((spec_l1Byte.f s0_0 bt604.2.1 bt604.2.2).bind fun bt607 => ((spec_l1Byte.f s0_0 bt607.2.1 bt607.2.2).bind fun bt610 => (if a1 = 0 then (none) else (some (Int.tmod (wrap64 ((wrap64 ((wrap64 (bt604.1 * 65536)) + (wrap64 (bt607.1 * 256)))) + bt610.1)) a1, bt610.2.1, bt610.2.2)))))))) = some (r1, r2, r3) := h
 clear h
 replace H := itd_ H; obtain ⟨c3b0, H⟩ | ⟨c3b0, H⟩ := H
 ·replace H := so3_ H; obtain ⟨rfl, rfl, rfl⟩ := H
  go_enter Try.func61, Try.ntmps61
  go_wp2
  go_ret
  exact ⟨e2_, by repeat (first | (with_reducible first | exact HI0.out | apply IsS111.alloc | apply IsS111.drewN | apply IsS111.drew | apply IsS111.set_1 | apply IsS111.set_2) | exact HI0.out), by repeat (first | (with_reducible first | exact HB.out | apply below_alloc | apply pw_below_drewN | apply below_drew1 | refine below_set ?_ (IsS111.ge HI0.out)) | exact HB.out), by repeat (first | (with_reducible first | exact HK.out | apply KeepBut.set_ | apply keep_drewN | apply keep_drew | apply keep_alloc) | exact HK.out)⟩
 ·replace H := itd_ H; obtain ⟨c4b0, H⟩ | ⟨c4b0, H⟩ := H
  ·replace H := bi_ H; obtain ⟨⟨t601, t602, t603⟩, A5, H⟩ := H
   dsimp only at H
   replace H := in_ H; obtain ⟨c6, H⟩ := H
   have c6b0 : (a1 == 0) = false := beq_eq_false_iff_ne.mpr c6
   have c6b1 : (a1 != 0) = true := bne_iff_ne.mpr c6
   replace H := so3_ H; obtain ⟨rfl, rfl, rfl⟩ := H
   go_enter Try.func61, Try.ntmps61
   go_wp2_with (first | ((with_reducible refine gk_ 100 ?_); refine gl_ 13 Try.func100 #[.pointer (some ⟨g, 0, none⟩)] ?_; (with_reducible refine (spec_l1Byte.calls g s0_0 s0_1 s0_2 t601 t602 t603 w0 _ ?side1 ?side2 A5.out).mono ?_); (case side1 => repeat (first | (with_reducible first | exact HI0.out | apply IsS111.alloc | apply IsS111.drewN | apply IsS111.drew | apply IsS111.set_1 | apply IsS111.set_2) | exact HI0.out)); (case side2 => repeat (first | (with_reducible first | exact HB.out | apply below_alloc | apply pw_below_drewN | apply below_drew1 | refine below_set ?_ (IsS111.ge HI0.out)) | exact HB.out)); rintro e w7 ⟨rfl, hi, hb, hk⟩; refine ⟨_, rfl, ?_⟩; replace HK := Aside0.mk (KeepBut.trans (by repeat (first | (with_reducible first | exact HK.out | apply KeepBut.set_ | apply keep_drewN | apply keep_drew | apply keep_alloc) | exact HK.out)) hk (.inl rfl)); replace HB := Aside0.mk hb; replace HI0 := Aside0.mk hi; clear hb hk hi))
   go_ret
   exact ⟨e2_, by repeat (first | (with_reducible first | exact HI0.out | apply IsS111.alloc | apply IsS111.drewN | apply IsS111.drew | apply IsS111.set_1 | apply IsS111.set_2) | exact HI0.out), by repeat (first | (with_reducible first | exact HB.out | apply below_alloc | apply pw_below_drewN | apply below_drew1 | refine below_set ?_ (IsS111.ge HI0.out)) | exact HB.out), by repeat (first | (with_reducible first | exact HK.out | apply KeepBut.set_ | apply keep_drewN | apply keep_drew | apply keep_alloc) | exact HK.out)⟩
  ·replace H := bi_ H; obtain ⟨⟨t604, t605, t606⟩, A8, H⟩ := H
   dsimp only at H
   replace H := bi_ H; obtain ⟨⟨t607, t608, t609⟩, A9, H⟩ := H
   dsimp only at H
   replace H := bi_ H; obtain ⟨⟨t610, t611, t612⟩, A10, H⟩ := H
   dsimp only at H
   replace H := in_ H; obtain ⟨c11, H⟩ := H
   have c11b0 : (a1 == 0) = false := beq_eq_false_iff_ne.mpr c11
   have c11b1 : (a1 != 0) = true := bne_iff_ne.mpr c11
   replace H := so3_ H; obtain ⟨rfl, rfl, rfl⟩ := H
   go_enter Try.func61, Try.ntmps61
   go_wp2_with (first | ((with_reducible refine gk_ 100 ?_); refine gl_ 17 Try.func100 #[.pointer (some ⟨g, 0, none⟩)] ?_; (with_reducible refine (spec_l1Byte.calls g s0_0 s0_1 s0_2 t604 t605 t606 w0 _ ?side1 ?side2 A8.out).mono ?_); (case side1 => repeat (first | (with_reducible first | exact HI0.out | apply IsS111.alloc | apply IsS111.drewN | apply IsS111.drew | apply IsS111.set_1 | apply IsS111.set_2) | exact HI0.out)); (case side2 => repeat (first | (with_reducible first | exact HB.out | apply below_alloc | apply pw_below_drewN | apply below_drew1 | refine below_set ?_ (IsS111.ge HI0.out)) | exact HB.out)); rintro e w12 ⟨rfl, hi, hb, hk⟩; refine ⟨_, rfl, ?_⟩; replace HK := Aside0.mk (KeepBut.trans (by repeat (first | (with_reducible first | exact HK.out | apply KeepBut.set_ | apply keep_drewN | apply keep_drew | apply keep_alloc) | exact HK.out)) hk (.inl rfl)); replace HB := Aside0.mk hb; replace HI0 := Aside0.mk hi; clear hb hk hi) | ((with_reducible refine gk_ 100 ?_); refine gl_ 19 Try.func100 #[.pointer (some ⟨g, 0, none⟩)] ?_; (with_reducible refine (spec_l1Byte.calls g s0_0 t605 t606 t607 t608 t609 w0 _ ?side1 ?side2 A9.out).mono ?_); (case side1 => repeat (first | (with_reducible first | exact HI0.out | apply IsS111.alloc | apply IsS111.drewN | apply IsS111.drew | apply IsS111.set_1 | apply IsS111.set_2) | exact HI0.out)); (case side2 => repeat (first | (with_reducible first | exact HB.out | apply below_alloc | apply pw_below_drewN | apply below_drew1 | refine below_set ?_ (IsS111.ge HI0.out)) | exact HB.out)); rintro e w13 ⟨rfl, hi, hb, hk⟩; refine ⟨_, rfl, ?_⟩; replace HK := Aside0.mk (KeepBut.trans (by repeat (first | (with_reducible first | exact HK.out | apply KeepBut.set_ | apply keep_drewN | apply keep_drew | apply keep_alloc) | exact HK.out)) hk (.inl rfl)); replace HB := Aside0.mk hb; replace HI0 := Aside0.mk hi; clear hb hk hi) | ((with_reducible refine gk_ 100 ?_); refine gl_ 21 Try.func100 #[.pointer (some ⟨g, 0, none⟩)] ?_; (with_reducible refine (spec_l1Byte.calls g s0_0 t608 t609 t610 t611 t612 w0 _ ?side1 ?side2 A10.out).mono ?_); (case side1 => repeat (first | (with_reducible first | exact HI0.out | apply IsS111.alloc | apply IsS111.drewN | apply IsS111.drew | apply IsS111.set_1 | apply IsS111.set_2) | exact HI0.out)); (case side2 => repeat (first | (with_reducible first | exact HB.out | apply below_alloc | apply pw_below_drewN | apply below_drew1 | refine below_set ?_ (IsS111.ge HI0.out)) | exact HB.out)); rintro e w14 ⟨rfl, hi, hb, hk⟩; refine ⟨_, rfl, ?_⟩; replace HK := Aside0.mk (KeepBut.trans (by repeat (first | (with_reducible first | exact HK.out | apply KeepBut.set_ | apply keep_drewN | apply keep_drew | apply keep_alloc) | exact HK.out)) hk (.inl rfl)); replace HB := Aside0.mk hb; replace HI0 := Aside0.mk hi; clear hb hk hi))
   go_ret
   exact ⟨e2_, by repeat (first | (with_reducible first | exact HI0.out | apply IsS111.alloc | apply IsS111.drewN | apply IsS111.drew | apply IsS111.set_1 | apply IsS111.set_2) | exact HI0.out), by repeat (first | (with_reducible first | exact HB.out | apply below_alloc | apply pw_below_drewN | apply below_drew1 | refine below_set ?_ (IsS111.ge HI0.out)) | exact HB.out), by repeat (first | (with_reducible first | exact HK.out | apply KeepBut.set_ | apply keep_drewN | apply keep_drew | apply keep_alloc) | exact HK.out)⟩
end Go.Proofs.Ytjnnglphdaemaaa.Q
end

section
-- Written by a program of this session (wip/tools/pp.sh) over the print of the kit.
namespace Go.Proofs.Ytjnnglphdaemaaa.Q
open Go.RowKit Go.Proofs.YtjnnglphdaemaaaW.PrintWords Go.Proofs.YtjnnglphdaemaaaW.PrintLast Go.Proofs.YtjnnglphdaemaaaW.PrintMore
attribute [local go_sem] max2_int min2_int max_two min_two max_three min_three max_four min_four   -- for this text's walks alone
set_option linter.unusedVariables false
set_option linter.unusedSimpArgs false
def spec_l1Int.f (s0_0 : List Int) (s0_1 : Int) (s0_2 : Int) (l1 : List Int) : Option (Int × Int × Int) := (spec_l1Below.f s0_0 s0_1 s0_2 (l1.length : Int)).bind fun bt601 => (if 0 ≤ bt601.1 then (if bt601.1 < (l1.length : Int) then (some (rd l1 bt601.1, bt601.2.1, bt601.2.2)) else (none)) else (none))
set_option maxHeartbeats 8000000 in
set_option maxRecDepth 100000 in
theorem spec_l1Int.calls (g : Nat) (s0_0 : List Int) (s0_1 : Int) (s0_2 : Int) (A1 : Option Addr) (c1 : Nat) (l1 : List Int) (r1 : Int) (r2 : Int) (r3 : Int) (w0 w : World) (hI : IsS111 w0 w g s0_0 s0_1 s0_2) (hB : Below w0.heap.size w0 w) (hr1 : Kd.C (Kd.int .i64) w A1 l1.length l1) (hc1 : l1.length ≤ c1) (hf1 : ∀ ad, A1 = some ad → 0 < l1.length → ad.block ≠ g) (h : spec_l1Int.f s0_0 s0_1 s0_2 l1 = some (r1, r2, r3)) :
  Calls Try.prog 98 #[.pointer (some ⟨g, 0, none⟩), .slice A1 l1.length c1] w fun e w' => e = .returned (.int .i64 r1) ∧ IsS111 w0 w' g s0_0 r2 r3 ∧ Below w0.heap.size w0 w' ∧ KeepBut w w' g none := by
 have HR1 := Aside0.mk hr1
 have HC1 := Aside0.mk hc1
 clear hr1 hc1
 have HI0 := Aside0.mk hI
 have HK := Aside0.mk (KeepBut.refl w g none)
 have HL := Aside0.mk hB.size
 clear hI
 have HW0 := Aside0.mk hB.size
 have HB := Aside0.mk hB
 clear hB
 have H : ((spec_l1Below.f s0_0 s0_1 s0_2 (l1.length : Int)).bind fun bt601 => (if 0 ≤ bt601.1 then (if bt601.1 < (l1.length : Int) then (some (rd l1 bt601.1, bt601.2.1, bt601.2.2)) else (none)) else (none))) = some (r1, r2, r3) := h
 clear h
 replace H := bi_ H; obtain ⟨⟨t601, t602, t603⟩, A3, H⟩ := H
 dsimp only at H
 replace H := ipd_ H; obtain ⟨c4b0, H⟩ := H
 replace H := ipd_ H; obtain ⟨c5b0, H⟩ := H
 replace H := so3_ H; obtain ⟨rfl, rfl, rfl⟩ := H
 go_enter Try.func98, Try.ntmps98
 go_wp2_with (first | ((with_reducible refine gk_ 61 ?_); refine gl_ 9 Try.func61 #[.pointer (some ⟨g, 0, none⟩), .int .i64 (l1.length : Int)] ?_; (with_reducible refine (spec_l1Below.calls g s0_0 s0_1 s0_2 (l1.length : Int) t601 t602 t603 w0 _ ?side1 ?side2 A3.out).mono ?_); (case side1 => repeat (first | (with_reducible first | exact HI0.out | apply IsS111.alloc | apply IsS111.drewN | apply IsS111.drew | apply IsS111.set_1 | apply IsS111.set_2) | exact HI0.out)); (case side2 => repeat (first | (with_reducible first | exact HB.out | apply below_alloc | apply pw_below_drewN | apply below_drew1 | refine below_set ?_ (IsS111.ge HI0.out)) | exact HB.out)); rintro e w6 ⟨rfl, hi, hb, hk⟩; refine ⟨_, rfl, ?_⟩; replace HK := Aside0.mk (KeepBut.trans (by repeat (first | (with_reducible first | exact HK.out | apply KeepBut.set_ | apply keep_drewN | apply keep_drew | apply keep_alloc) | exact HK.out)) hk (.inl rfl)); replace HB := Aside0.mk hb; replace HI0 := Aside0.mk hi; clear hb hk hi; have p604 : 0 ≤ (t601 : Int) := of_decide_eq_true as_; have q604 : t601 < (l1.length : Int) := of_decide_eq_true as_; obtain ⟨ad604, e604, hx604_0⟩ := Kd.at_int HR1.out t601 p604 q604; cases e604; replace hx604_0 := keep_cell HK.out hx604_0 (by first | (rw [add_block]; exact hf1 _ rfl (by omega)) | exact hf1 _ rfl (by omega) | exact hf1 ad604 rfl (by omega)); replace p604 := eq_true p604; replace q604 := eq_true q604))
 go_ret
 exact ⟨e2_, by repeat (first | (with_reducible first | exact HI0.out | apply IsS111.alloc | apply IsS111.drewN | apply IsS111.drew | apply IsS111.set_1 | apply IsS111.set_2) | exact HI0.out), by repeat (first | (with_reducible first | exact HB.out | apply below_alloc | apply pw_below_drewN | apply below_drew1 | refine below_set ?_ (IsS111.ge HI0.out)) | exact HB.out), by repeat (first | (with_reducible first | exact HK.out | apply KeepBut.set_ | apply keep_drewN | apply keep_drew | apply keep_alloc) | exact HK.out)⟩
end Go.Proofs.Ytjnnglphdaemaaa.Q
end
