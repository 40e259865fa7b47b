-- Joined and shortened by a program of this session (wip/tools/shakecopy.py): the words of the print, texts of pp.sh and of mine.
import Derived.Test.YtcogimnpffnanaaKFnExactStoreOk8
import Derived.Deep.Slices
import Derived.ChangeArms
section
namespace Go.Proofs.Ytcogimnpffnanaa.Q
open Go.RowKit Go.Proofs.YtcogimnpffnanaaW.PrintWords Go.Proofs.YtcogimnpffnanaaW.PrintLast Go.Proofs.YtcogimnpffnanaaW.PrintMore
attribute [local go_sem] max2_int min2_int max_two min_two max_three min_three max_four min_four   -- for this text's walks alone
set_option linter.unusedVariables false
set_option linter.unusedSimpArgs false
attribute [local go_sem high] eqA31
mutual
def impl_StoreOk.j0 : Nat → Bool → List ByteArray → Int → ByteArray → List Int → Int → Option (Bool)
 | 0, _, _, _, _, _, _ => none
 | k + 1, x27, x602000, x602001, x602002, x602003, x602004 => if x27 = true then (some false) else (impl_StoreOk.l0 k ([] : List ByteArray) 0 x602000 x602001 x602002 x602003 x602004)
def impl_StoreOk.l0 : Nat → List ByteArray → Int → List ByteArray → Int → ByteArray → List Int → Int → Option (Bool)
 | 0, _, _, _, _, _, _, _ => none
 | k + 1, x3, x4, x602000, x602001, x602002, x602003, x602004 => if x4 < (x602003.length : Int) then ((impl_GetCommit.f k x602003 x4).bind fun bt605 => (if x3.length + bt605.2.2.1.length < 8796093022208 then ((some (x3 ++ bt605.2.2.1 : List ByteArray)).bind fun y613 => (if bt605.2.2.2.2 = true then ((impl_HeadOf.f k y613).bind fun bt616 => (if (!(bt605.1 == bt616.1) || (!(bt605.2.1.toList == bt616.2.toList))) = true then (some false) else (impl_StoreOk.l0 k y613 bt605.2.2.2.1 x602000 x602001 x602002 x602003 x602004))) else (some false))) else (none))) else ((slices_Equal_string_string.f k x3 x602000).bind fun t604 => (some t604))
end
def impl_StoreOk.f (k : Nat) (l0_0 : List ByteArray) (a0_1 : Int) (a0_2 : ByteArray) (l0_3 : List Int) (a0_4 : Int) : Option (Bool) := (impl_LogOk.f k l0_0 a0_1 a0_2).bind fun t602 => (if t602 = true then (if (l0_3.length : Int) > 60000 then (impl_StoreOk.j0 k true l0_0 a0_1 a0_2 l0_3 a0_4) else ((impl_inRange.f a0_4 0 (l0_3.length : Int)).bind fun t603 => (impl_StoreOk.j0 k (!t603) l0_0 a0_1 a0_2 l0_3 a0_4))) else (impl_StoreOk.j0 k true l0_0 a0_1 a0_2 l0_3 a0_4))
theorem impl_StoreOk.mono_l : ∀ k, (∀ y0 y1 y2 y3 y4 y5, LeO (impl_StoreOk.j0 k y0 y1 y2 y3 y4 y5) (impl_StoreOk.j0 (k + 1) y0 y1 y2 y3 y4 y5)) ∧ (∀ y0 y1 y2 y3 y4 y5 y6, LeO (impl_StoreOk.l0 k y0 y1 y2 y3 y4 y5 y6) (impl_StoreOk.l0 (k + 1) y0 y1 y2 y3 y4 y5 y6))
 | 0 => ⟨fun _ _ _ _ _ _ r h => by simp [impl_StoreOk.j0] at h, fun _ _ _ _ _ _ _ r h => by simp [impl_StoreOk.l0] at h⟩
 | k + 1 => by
  obtain ⟨ih0, ih1⟩ := impl_StoreOk.mono_l k
  refine ⟨?_, ?_⟩
  ·intro y0 y1 y2 y3 y4 y5
   unfold impl_StoreOk.j0
   repeat' (with_reducible first | exact LeO.refl _ | exact LeO.none _ | apply ih0 | apply ih1 | apply impl_GetCommit.mono | apply impl_HeadOf.mono | apply impl_LogOk.mono | apply slices_Equal_string_string.mono | apply LeO.ite | refine LeO.bind ?_ fun _ => ?_)
  ·intro y0 y1 y2 y3 y4 y5 y6
   unfold impl_StoreOk.l0
   repeat' (with_reducible first | exact LeO.refl _ | exact LeO.none _ | apply ih0 | apply ih1 | apply impl_GetCommit.mono | apply impl_HeadOf.mono | apply impl_LogOk.mono | apply slices_Equal_string_string.mono | apply LeO.ite | refine LeO.bind ?_ fun _ => ?_)
theorem impl_StoreOk.mono : ∀ a0 a1 a2 a3 a4 k, LeO (impl_StoreOk.f k a0 a1 a2 a3 a4) (impl_StoreOk.f (k + 1) a0 a1 a2 a3 a4) := by
 intro a0 a1 a2 a3 a4 k
 obtain ⟨ih0, ih1⟩ := impl_StoreOk.mono_l k
 unfold impl_StoreOk.f
 repeat' (with_reducible first | exact LeO.refl _ | exact LeO.none _ | apply ih0 | apply ih1 | apply impl_GetCommit.mono | apply impl_HeadOf.mono | apply impl_LogOk.mono | apply slices_Equal_string_string.mono | apply LeO.ite | refine LeO.bind ?_ fun _ => ?_)
def impl_StoreOk.T8 : Bool × List (List Nat × List Nat) := (true, [([], []), ([0], [0]), ([1], [1]), ([2], [2]), ([2], [2]), ([4, 2, 2], [2, 4]), ([3, 5, 2], [2, 3, 5]), ([2, 6], [2, 6])])
def impl_StoreOk.B8 : List Nat := [0, 1, 3, 7, 7, 23, 63, 127]
theorem impl_StoreOk.tab8 : rtab .any (opsOf Try.f70 8) = impl_StoreOk.T8 := by kernel_rfl
theorem impl_StoreOk.bits8 : waitsOk impl_StoreOk.T8.2 impl_StoreOk.B8 = true := by kernel_rfl
set_option maxHeartbeats 8000000 in
set_option maxRecDepth 100000 in
theorem impl_StoreOk.calls (k : Nat) (A0_0 : Option Addr) (c0_0 : Nat) (l0_0 : List ByteArray) (a0_1 : Int) (a0_2 : ByteArray) (A0_3 : Option Addr) (c0_3 : Nat) (l0_3 : List Int) (a0_4 : Int) (r : Bool) (w : World) (hr0_0 : Kd.C Kd.string w A0_0 l0_0.length l0_0) (hc0_0 : l0_0.length ≤ c0_0) (hr0_3 : Kd.C (Kd.int .u8) w A0_3 l0_3.length l0_3) (hc0_3 : l0_3.length ≤ c0_3) (h : impl_StoreOk.f k l0_0 a0_1 a0_2 l0_3 a0_4 = some r) :
  Calls Try.prog 70 #[.agg #[.slice A0_0 l0_0.length c0_0, .int .i64 a0_1, .string a0_2, .slice A0_3 l0_3.length c0_3, .int .i64 a0_4]] w fun e w' => e = .returned (.bool r) ∧ Below w.heap.size w w' := by
 have hu88 := Try.underlying88
 have hu74 := Try.underlying74
 have hu31 := Try.underlying31
 have HR0_0 := Aside0.mk hr0_0
 have HC0_0 := Aside0.mk hc0_0
 clear hr0_0 hc0_0
 have HR0_3 := Aside0.mk hr0_3
 have HC0_3 := Aside0.mk hc0_3
 clear hr0_3 hc0_3
 have HB := Aside0.mk (Below.refl w.heap.size w)
 have H : ((impl_LogOk.f k l0_0 a0_1 a0_2).bind fun t602 => (if t602 = true then (if (l0_3.length : Int) > 60000 then (impl_StoreOk.j0 k true l0_0 a0_1 a0_2 l0_3 a0_4) else ((impl_inRange.f a0_4 0 (l0_3.length : Int)).bind fun t603 => (impl_StoreOk.j0 k (!t603) l0_0 a0_1 a0_2 l0_3 a0_4))) else (impl_StoreOk.j0 k true l0_0 a0_1 a0_2 l0_3 a0_4))) = some r := h
 clear h
 have HC2 := Aside0.mk H
 clear H
 go_enter Try.func70, Try.ntmps70
 go_upto_region 1 with (first | ((with_reducible refine gate_dst (N := 1) rfl ?_); (try (refine gate_guard (by rfl) ?_; dsimp only)); refine box_event ?hg (N := 1) ?hd (cs := #[.slice A0_0 l0_0.length c0_0, .int .i64 a0_1, .string a0_2, .slice A0_3 l0_3.length c0_3, .int .i64 a0_4]) (t := 88) ?hr ?_; (case hd => rfl); (case hg => rfl); (case hr => first | (go_simp; done) | (go_simp; rfl)); intro gb601 hg w3 hbox hb; have BK601 := Aside0.mk (hbox); have GW601 := Aside0.mk ((by rw [hg]; exact (below_size (bw_ HB)) : w.heap.size ≤ gb601)); have GE601 := Aside0.mk ((by rw [hg]; exact (below_size (bw_ HB)) : w.heap.size ≤ gb601)); replace HB := Aside0.mk (below_step (bw_ HB) hb); clear hb hbox hg))
 (try simp only [Act.put, List.setIfInBounds_toArray, List.set_cons_zero, List.set_cons_succ])
 go_cut [27] (fun v27 wc => ∃ (kq : Nat) (x27_1 : Bool), v27 = .bool x27_1 ∧ Aside0 (impl_StoreOk.j0 kq x27_1 l0_0 a0_1 a0_2 l0_3 a0_4 = some r) ∧ Aside0 (kq ≤ k) ∧ Aside0 (wc.heap[gb601]? = some (.cells #[(.slice A0_0 l0_0.length c0_0), .int .i64 a0_1, .string a0_2, (.slice A0_3 l0_3.length c0_3), .int .i64 a0_4] 88 (0, 0))) ∧ Aside0 (Below w.heap.size w wc))
 case first =>
  have H := HC2.out
  clear HC2
  replace H := Option.bind_eq_some_iff.mp H
  obtain ⟨t602, A40, H⟩ := H
  have A4 := Aside0.mk A40
  clear A40
  by_cases c5 : t602 = true
  ·subst c5
   rw [if_pos rfl] at H
   by_cases c6 : (l0_3.length : Int) > 60000
   ·rw [if_pos c6] at H
    have c6b0 : decide (60000 < (l0_3.length : Int)) = true := decide_eq_true c6
    have c6b1 : decide (60000 < l0_3.length) = true := decide_eq_true (by omega)
    clear c6
    (first | rw [c6b0] | (simp only [i64_w, i32_w]; rw [c6b0]) | rw [c6b1] | skip)
    have H' := Aside0.mk H
    clear H
    have hcz7_0 := bc0_ BK601.out
    have hcz7_1 := bc1_ BK601.out
    have hcz7_2 := bc2_ BK601.out
    have hcz7_3 := bc3_ BK601.out
    have hcz7_4 := bc4_ BK601.out
    have hfz7_0 := blk_frozen BK601.out 0
    have hfz7_1 := blk_frozen BK601.out 1
    have hfz7_2 := blk_frozen BK601.out 2
    have hfz7_3 := blk_frozen BK601.out 3
    have hfz7_4 := blk_frozen BK601.out 4
    go_wp2_with (first | ((with_reducible refine gk_ 69 ?_); refine gl_ 11 Try.func69 #[.agg #[.slice A0_0 l0_0.length c0_0, .int .i64 a0_1, .string a0_2]] ?_; (with_reducible refine (impl_LogOk.calls k _ _ l0_0 a0_1 a0_2 true _ ?side1 ?side2 A4.out).mono ?_); (case side1 => exact cr_ (Kd.C_below HR0_0.out HB.out)); (case side2 => exact HC0_0.out); rintro e w8 ⟨rfl, hb⟩; refine ⟨_, rfl, ?_⟩; replace BK601 := Aside0.mk (blk_below (kb_ BK601.out) hb); replace HB := Aside0.mk (below_step (bs1_ HB GE601.out) hb); clear hb; have hcz9_0 := bc0_ BK601.out; have hcz9_1 := bc1_ BK601.out; have hcz9_2 := bc2_ BK601.out; have hcz9_3 := bc3_ BK601.out; have hcz9_4 := bc4_ BK601.out; have hfz9_0 := blk_frozen BK601.out 0; have hfz9_1 := blk_frozen BK601.out 1; have hfz9_2 := blk_frozen BK601.out 2; have hfz9_3 := blk_frozen BK601.out 3; have hfz9_4 := blk_frozen BK601.out 4))
    go_meet
    case rel => exact ⟨_, (true), e1_, H', ⟨le_⟩, ⟨by (with_reducible repeat (first | refine blk_drewN ?_ _ | refine blk_drew ?_ | refine blk_alloc ?_ _)); exact BK601.out⟩, ⟨by repeat (first | (with_reducible first | exact HB.out | apply below_alloc | apply pw_below_drewN | apply below_drew1 | refine below_set ?_ GE601.out) | exact HB.out)⟩⟩
   ·rw [if_neg c6] at H
    have c6b0 : decide (60000 < (l0_3.length : Int)) = false := decide_eq_false c6
    have c6b1 : decide (60000 < l0_3.length) = false := decide_eq_false (by omega)
    clear c6
    (first | rw [c6b0] | (simp only [i64_w, i32_w]; rw [c6b0]) | rw [c6b1] | skip)
    replace H := Option.bind_eq_some_iff.mp H
    obtain ⟨t603, A100, H⟩ := H
    have A10 := Aside0.mk A100
    clear A100
    have H' := Aside0.mk H
    clear H
    have hcz11_0 := bc0_ BK601.out
    have hcz11_1 := bc1_ BK601.out
    have hcz11_2 := bc2_ BK601.out
    have hcz11_3 := bc3_ BK601.out
    have hcz11_4 := bc4_ BK601.out
    have hfz11_0 := blk_frozen BK601.out 0
    have hfz11_1 := blk_frozen BK601.out 1
    have hfz11_2 := blk_frozen BK601.out 2
    have hfz11_3 := blk_frozen BK601.out 3
    have hfz11_4 := blk_frozen BK601.out 4
    go_wp2_with (first | ((with_reducible refine gk_ 69 ?_); refine gl_ 11 Try.func69 #[.agg #[.slice A0_0 l0_0.length c0_0, .int .i64 a0_1, .string a0_2]] ?_; (with_reducible refine (impl_LogOk.calls k _ _ l0_0 a0_1 a0_2 true _ ?side1 ?side2 A4.out).mono ?_); (case side1 => exact cr_ (Kd.C_below HR0_0.out HB.out)); (case side2 => exact HC0_0.out); rintro e w12 ⟨rfl, hb⟩; refine ⟨_, rfl, ?_⟩; replace BK601 := Aside0.mk (blk_below (kb_ BK601.out) hb); replace HB := Aside0.mk (below_step (bs1_ HB GE601.out) hb); clear hb; have hcz13_0 := bc0_ BK601.out; have hcz13_1 := bc1_ BK601.out; have hcz13_2 := bc2_ BK601.out; have hcz13_3 := bc3_ BK601.out; have hcz13_4 := bc4_ BK601.out; have hfz13_0 := blk_frozen BK601.out 0; have hfz13_1 := blk_frozen BK601.out 1; have hfz13_2 := blk_frozen BK601.out 2; have hfz13_3 := blk_frozen BK601.out 3; have hfz13_4 := blk_frozen BK601.out 4) | (go_at_call 93; (with_reducible refine (impl_inRange.calls a0_4 0 (l0_3.length : Int) t603 _ A10.out).mono ?_); rintro e w' ⟨rfl, ⟨nd, rfl⟩⟩))
    go_meet
    case rel => exact ⟨_, (!t603), e1_, H', ⟨le_⟩, ⟨by (with_reducible repeat (first | refine blk_drewN ?_ _ | refine blk_drew ?_ | refine blk_alloc ?_ _)); exact BK601.out⟩, ⟨by repeat (first | (with_reducible first | exact HB.out | apply below_alloc | apply pw_below_drewN | apply below_drew1 | refine below_set ?_ GE601.out) | exact HB.out)⟩⟩
  ·replace c5 := Bool.eq_false_iff.mpr c5
   subst c5
   rw [if_neg nf_] at H
   have H' := Aside0.mk H
   clear H
   have hcz14_0 := bc0_ BK601.out
   have hcz14_1 := bc1_ BK601.out
   have hcz14_2 := bc2_ BK601.out
   have hcz14_3 := bc3_ BK601.out
   have hcz14_4 := bc4_ BK601.out
   have hfz14_0 := blk_frozen BK601.out 0
   have hfz14_1 := blk_frozen BK601.out 1
   have hfz14_2 := blk_frozen BK601.out 2
   have hfz14_3 := blk_frozen BK601.out 3
   have hfz14_4 := blk_frozen BK601.out 4
   go_wp2_with (first | ((with_reducible refine gk_ 69 ?_); refine gl_ 11 Try.func69 #[.agg #[.slice A0_0 l0_0.length c0_0, .int .i64 a0_1, .string a0_2]] ?_; (with_reducible refine (impl_LogOk.calls k _ _ l0_0 a0_1 a0_2 false _ ?side1 ?side2 A4.out).mono ?_); (case side1 => exact cr_ (Kd.C_below HR0_0.out HB.out)); (case side2 => exact HC0_0.out); rintro e w15 ⟨rfl, hb⟩; refine ⟨_, rfl, ?_⟩; replace BK601 := Aside0.mk (blk_below (kb_ BK601.out) hb); replace HB := Aside0.mk (below_step (bs1_ HB GE601.out) hb); clear hb))
   go_meet
   case rel => exact ⟨_, (true), e1_, H', ⟨le_⟩, ⟨by (with_reducible repeat (first | refine blk_drewN ?_ _ | refine blk_drew ?_ | refine blk_alloc ?_ _)); exact BK601.out⟩, ⟨by repeat (first | (with_reducible first | exact HB.out | apply below_alloc | apply pw_below_drewN | apply below_drew1 | refine below_set ?_ GE601.out) | exact HB.out)⟩⟩
 case rest =>
  clear HC2
  try clear p2
  try clear c5
  try clear c6
  try clear c6b0
  try clear c6b1
  try clear c7
  try clear hcz11_0
  try clear hcz11_1
  try clear hcz11_2
  try clear hcz11_3
  try clear hcz11_4
  try clear hcz13_0
  try clear hcz13_1
  try clear hcz13_2
  try clear hcz13_3
  try clear hcz13_4
  try clear hcz14_0
  try clear hcz14_1
  try clear hcz14_2
  try clear hcz14_3
  try clear hcz14_4
  try clear hcz7_0
  try clear hcz7_1
  try clear hcz7_2
  try clear hcz7_3
  try clear hcz7_4
  try clear hcz9_0
  try clear hcz9_1
  try clear hcz9_2
  try clear hcz9_3
  try clear hcz9_4
  try clear hfz11_0
  try clear hfz11_1
  try clear hfz11_2
  try clear hfz11_3
  try clear hfz11_4
  try clear hfz13_0
  try clear hfz13_1
  try clear hfz13_2
  try clear hfz13_3
  try clear hfz13_4
  try clear hfz14_0
  try clear hfz14_1
  try clear hfz14_2
  try clear hfz14_3
  try clear hfz14_4
  try clear hfz7_0
  try clear hfz7_1
  try clear hfz7_2
  try clear hfz7_3
  try clear hfz7_4
  try clear hfz9_0
  try clear hfz9_1
  try clear hfz9_2
  try clear hfz9_3
  try clear hfz9_4
  obtain ⟨kq, x27_1, rfl, HA, HJ1, BK601, HB⟩ := hcut
  cases kq with
  | zero => exact absurd HA.out (by simp [impl_StoreOk.j0])
  | succ kj1 =>
   have H := HA.out
   clear HA
   simp only [impl_StoreOk.j0] at H
   by_cases c16 : x27_1 = true
   ·subst c16
    rw [if_pos rfl] at H
    obtain rfl := Option.some.inj H
    go_wp2
    go_ret
    exact ⟨e2_, by repeat (first | (with_reducible first | exact HB.out | apply below_alloc | apply pw_below_drewN | apply below_drew1 | refine below_set ?_ GE601.out) | exact HB.out)⟩
   ·replace c16 := Bool.eq_false_iff.mpr c16
    subst c16
    rw [if_neg nf_] at H
    have H' := Aside0.mk H
    clear H
    go_wp2
    go_loopg [3, 4] kj1 (fun kq v3 v4 w' => ∃ (x3_2 : List ByteArray) (x4_2 : Int), v4 = .int .i64 x4_2 ∧ Aside0 (impl_StoreOk.l0 kq x3_2 x4_2 l0_0 a0_1 a0_2 l0_3 a0_4 = some r) ∧ Aside0 (kq ≤ kj1) ∧ Aside0 (Kd.R Kd.string 9 w' w.heap.size (fun _ => True) v3 x3_2) ∧ Aside0 (w'.heap[gb601]? = some (.cells #[(.slice A0_0 l0_0.length c0_0), .int .i64 a0_1, .string a0_2, (.slice A0_3 l0_3.length c0_3), .int .i64 a0_4] 88 (0, 0))) ∧ Aside0 (Below w.heap.size w w'))
    case atStart => exact ⟨(([] : List ByteArray)), (0), e1_, H', ⟨Nat.le_refl _⟩, ⟨by first | exact Kd.R_nil _ _ _ _ _ | exact Kd.N_nil _ _ _ _ _ | exact Kd.V_nil _ _ _ _ _ | exact Kd.Q_nil _ _ _ _ _ | exact Kd.S_nil _ _ _ _ _⟩, ⟨by (with_reducible repeat (first | refine blk_drewN ?_ _ | refine blk_drew ?_ | refine blk_alloc ?_ _)); exact BK601.out⟩, ⟨by repeat (first | (with_reducible first | exact HB.out | apply below_alloc | apply pw_below_drewN | apply below_drew1 | refine below_set ?_ GE601.out) | exact HB.out)⟩⟩
    case round =>
     clear H'
     try clear c1
     try clear p2
     try clear c5
     try clear c6
     try clear c6b0
     try clear c6b1
     try clear c7
     try clear c16
     try clear hcz11_0
     try clear hcz11_1
     try clear hcz11_2
     try clear hcz11_3
     try clear hcz11_4
     try clear hcz13_0
     try clear hcz13_1
     try clear hcz13_2
     try clear hcz13_3
     try clear hcz13_4
     try clear hcz14_0
     try clear hcz14_1
     try clear hcz14_2
     try clear hcz14_3
     try clear hcz14_4
     try clear hcz7_0
     try clear hcz7_1
     try clear hcz7_2
     try clear hcz7_3
     try clear hcz7_4
     try clear hcz9_0
     try clear hcz9_1
     try clear hcz9_2
     try clear hcz9_3
     try clear hcz9_4
     try clear hfz11_0
     try clear hfz11_1
     try clear hfz11_2
     try clear hfz11_3
     try clear hfz11_4
     try clear hfz13_0
     try clear hfz13_1
     try clear hfz13_2
     try clear hfz13_3
     try clear hfz13_4
     try clear hfz14_0
     try clear hfz14_1
     try clear hfz14_2
     try clear hfz14_3
     try clear hfz14_4
     try clear hfz7_0
     try clear hfz7_1
     try clear hfz7_2
     try clear hfz7_3
     try clear hfz7_4
     try clear hfz9_0
     try clear hfz9_1
     try clear hfz9_2
     try clear hfz9_3
     try clear hfz9_4
     try clear p2
     obtain ⟨x3_2, x4_2, rfl, HA, HK2, HO_3, BK601, HB⟩ := hrel
     cases gk with
     | zero => exact absurd HA.out (by simp [impl_StoreOk.l0])
     | succ k2 =>
      have H := HA.out
      clear HA
      simp only [impl_StoreOk.l0] at H
      by_cases c17 : x4_2 < (l0_3.length : Int)
      ·rw [if_pos c17] at H
       have c17b0 := decide_eq_true c17
       clear c17
       replace H := Option.bind_eq_some_iff.mp H
       obtain ⟨⟨t605, t606, t607, t610, t611⟩, A180, H⟩ := H
       dsimp only at H
       have A18 := Aside0.mk A180
       clear A180
       by_cases c19 : x3_2.length + t607.length < 8796093022208
       ·rw [if_pos c19] at H
        have LMc19 := Aside0.mk c19
        clear c19
        obtain ⟨y613, Ny613, H⟩ := sb_ (x3_2 ++ t607) H
        by_cases c20 : t611 = true
        ·subst c20
         rw [if_pos rfl] at H
         replace H := Option.bind_eq_some_iff.mp H
         obtain ⟨⟨t616, t617⟩, A210, H⟩ := H
         dsimp only at H
         have A21 := Aside0.mk A210
         clear A210
         by_cases c22 : (!(t605 == t616) || (!(t606.toList == t617.toList))) = true
         ·rw [if_pos c22] at H
          have c22b0 : (!(t605 == t616) || (!(t606.toList == t617.toList))) = true := c22
          clear c22
          obtain rfl := Option.some.inj H
          have hcz23_0 := bc0_ BK601.out
          have hcz23_1 := bc1_ BK601.out
          have hcz23_2 := bc2_ BK601.out
          have hcz23_3 := bc3_ BK601.out
          have hcz23_4 := bc4_ BK601.out
          have hfz23_0 := blk_frozen BK601.out 0
          have hfz23_1 := blk_frozen BK601.out 1
          have hfz23_2 := blk_frozen BK601.out 2
          have hfz23_3 := blk_frozen BK601.out 3
          have hfz23_4 := blk_frozen BK601.out 4
          try go_wp2_with (first | ((with_reducible refine gk_ 39 ?_); refine gl_ 37 Try.func39 #[.slice A0_3 l0_3.length c0_3, .int .i64 x4_2] ?_; (with_reducible refine (impl_GetCommit.calls k2 _ _ l0_3 x4_2 t605 t606 t607 t610 true _ ?side1 ?side2 A18.out).mono ?_); (case side1 => exact cr_ (Kd.C_below HR0_3.out HB.out)); (case side2 => exact HC0_3.out); rintro e w24 ⟨v608, rfl, ho0, hb⟩; refine ⟨_, rfl, ?_⟩; have HO609 := Aside0.mk (Kd.R_lower (Kd.R_new' ho0 (Kd.R_lt (kr_ HO_3.out))) (below_size (bs1_ HB GE601.out))); replace HO_3 := Aside0.mk (Kd.R_elder' (kr_ HO_3.out) (Kd.R_base ho0) hb); replace BK601 := Aside0.mk (blk_below (kb_ BK601.out) hb); replace HB := Aside0.mk (below_step (bs1_ HB GE601.out) hb); clear hb ho0) | ((with_reducible refine gate_dst (N := 5) rfl ?_); (try (refine gate_guard (by rfl) ?_; dsimp only)); refine box_event ?hg (N := 5) ?hd (cs := #[.int .i64 0, .string (⟨#[]⟩ : ByteArray)]) (t := 31) ?hr ?_; (case hd => rfl); (case hg => rfl); (case hr => first | (go_simp; done) | (go_simp; rfl)); intro gb612 hg w25 hbox hb; replace HO_3 := Aside0.mk (Kd.R_below (kr_ HO_3.out) hb); replace HO609 := Aside0.mk (Kd.R_below (kr_ HO609.out) hb); have BK612 := Aside0.mk (hbox); have GW612 := Aside0.mk ((by rw [hg]; exact (below_size (bs1_ HB GE601.out)) : w.heap.size ≤ gb612)); have GE612 := Aside0.mk ((by rw [hg]; exact (below_size (bs1_ HB GE601.out)) : w.heap.size ≤ gb612)); replace HB := Aside0.mk (below_step (bs1_ HB GE601.out) hb); have NB601_612 := Aside0.mk ((by rw [hg]; exact Nat.ne_of_lt (blk_lt (kb_ BK601.out)) : gb601 ≠ gb612)); have NB612_601 := Aside0.mk ((by rw [hg]; exact Nat.ne_of_gt (blk_lt (kb_ BK601.out)) : gb612 ≠ gb601)); replace BK601 := Aside0.mk (blk_below (kb_ BK601.out) hb); clear hb hbox hg; have hnb26 := NB612_601.out; have hnc26 := NB601_612.out; have hcz27_0 := bc0_ BK612.out; have hcz27_1 := bc1_ BK612.out; have hfz27_0 := blk_frozen BK612.out 0; have hfz27_1 := blk_frozen BK612.out 1; obtain ⟨Ao29, co29, eo29⟩ := Kd.R_slice HO609.out; subst eo29) | ((with_reducible refine gate_builtin (b := .append) (xs := #[.tmp 42, .tmp 43]) rfl ?_); (try (refine gate_guard (by rfl) ?_; dsimp only)); at_builtin; refine Kd.R_append_rows Kd.string (w0 := w) w.heap.size rfl (.tmp 42) (.tmp 43) 25 9 (.string ⟨#[]⟩) 16 rfl Try.underlying25 info9 rfl (by decide) (by omega) u3 x3_2 t607 _ _ _ (fun k_ => some k_ ≠ (.slice Ao29 t607.length co29 : Value).ownBlock) (fun _ => False) rfl rfl ?aO ?aR (fun _ _ h => h) (fun _ h => h.elim) ?aF ?aB ?aS ?aL ?_; (case aR => refine (Kd.R_reads' (e := 9) (base := w.heap.size) (ok := fun k_ => (True ∧ some k_ ≠ (u3 : Value).ownBlock)) (n := t607.length) (c := co29) ?_).2.2; exact (kr_ ((Kd.R_mono (Kd.R_far (p := ⟨gb612, 1, none⟩) (Kd.R_far (p := ⟨gb612, 0, none⟩) (Kd.R_types HO609.out BK612.out (by decide)) (fun _ hk => hk.2) (.int .i64 t605)) (fun _ hk => hk.2) (.string t606)) (fun _ h_ => h_.1))))); (case aB => exact (bs2_ HB GE601.out GE612.out)); (case aF => exact (fun k_ hk => Kd.fresh' (Kd.R_lt (kr_ ((Kd.R_mono (Kd.R_far (p := ⟨gb612, 1, none⟩) (Kd.R_far (p := ⟨gb612, 0, none⟩) (Kd.R_types HO609.out BK612.out (by decide)) (fun _ hk => hk.2) (.int .i64 t605)) (fun _ hk => hk.2) (.string t606)) (fun _ h_ => h_.1))))) k_ hk)); (case aO => exact (kr_ (Kd.R_mono (Kd.R_far (p := ⟨gb612, 1, none⟩) (Kd.R_far (p := ⟨gb612, 0, none⟩) (Kd.R_types HO_3.out BK612.out (by decide)) (fun _ hk => hk.2) (.int .i64 t605)) (fun _ hk => hk.2) (.string t606)) (fun _ hk => hk.1.2)))); (case aS => exact (below_size (bs2_ HB GE601.out GE612.out))); (case aL => have := LMc19.out; omega); intro v614 w28 ho hb hg hat; rw [← Ny613.out] at ho; replace BK601 := Aside0.mk (blk_grown (g := gb601) (o := .cells #[.slice A0_0 l0_0.length c0_0, .int .i64 a0_1, .string a0_2, .slice A0_3 l0_3.length c0_3, .int .i64 a0_4] 88 (0, 0)) (by (with_reducible repeat (first | refine blk_drewN ?_ _ | refine blk_drew ?_ | refine blk_alloc ?_ _)); refine blk_far ?_ NB601_612.out _; (with_reducible repeat (first | refine blk_drewN ?_ _ | refine blk_drew ?_ | refine blk_alloc ?_ _)); refine blk_far ?_ NB601_612.out _; (with_reducible repeat (first | refine blk_drewN ?_ _ | refine blk_drew ?_ | refine blk_alloc ?_ _)); exact BK601.out) hg (Kd.R_ne HO_3.out BK601.out (by decide))); replace HO609 := Aside0.mk (Kd.R_after (ok := (fun _ => True)) (kr_ (Kd.R_mono (Kd.R_far (p := ⟨gb612, 1, none⟩) (Kd.R_far (p := ⟨gb612, 0, none⟩) (Kd.R_types HO609.out BK612.out (by decide)) (fun _ hk => hk.2) (.int .i64 t605)) (fun _ hk => hk.2) (.string t606)) (fun _ hk => ⟨trivial, hk.1.2⟩))) hg hat); replace BK612 := Aside0.mk (blk_grown (g := gb612) (o := .cells #[.int .i64 t605, .string t606] 31 (0, 0)) (by (with_reducible repeat (first | refine blk_drewN ?_ _ | refine blk_drew ?_ | refine blk_alloc ?_ _)); refine blk_put (cs := #[.int .i64 t605, .string (⟨#[]⟩ : ByteArray)]) ?_ 1 _ rfl; (with_reducible repeat (first | refine blk_drewN ?_ _ | refine blk_drew ?_ | refine blk_alloc ?_ _)); refine blk_put (cs := #[.int .i64 0, .string (⟨#[]⟩ : ByteArray)]) ?_ 0 _ rfl; (with_reducible repeat (first | refine blk_drewN ?_ _ | refine blk_drew ?_ | refine blk_alloc ?_ _)); exact BK612.out) hg (Kd.R_ne HO_3.out BK612.out (by decide))); replace HB := Aside0.mk (hb); have HO615 := Aside0.mk (ho); clear HO_3; clear ho hb hg hat))
          have n0_ := Aside0.mk (Kd.R_drew HO609.out)
          have n1_ := Aside0.mk (Kd.R_drew HO615.out)
          have n2_ := Aside0.mk (blk_drew BK601.out)
          have n3_ := Aside0.mk (blk_drew BK612.out)
          have n4_ := Aside0.mk (below_drew1 HB.out)
          clear HO609
          clear HO615
          clear BK601
          clear BK612
          clear HB
          have HO609 := n0_
          have HO615 := n1_
          have BK601 := n2_
          have BK612 := n3_
          have HB := n4_
          clear n0_ n1_ n2_ n3_ n4_
          obtain ⟨Ao31, co31, eo31⟩ := Kd.R_slice HO615.out
          (first | subst eo31 | (injection eo31 with f1_ f2_ f3_; have f4_ := f1_.symm; have f5_ := f3_.symm; clear f1_ f2_ f3_; subst f4_; subst f5_))
          refine start_ (n := 8) (S := fun w' => w'.cell? ⟨gb612, 0, none⟩ = some (.int .i64 t605) ∧ w'.cell? ⟨gb612, 1, none⟩ = some (.string t606)) (ds := []) (lz_ 8 0) (by kernel_rfl) rfl rfl ⟨(blk_cell BK612.out 0).trans rfl, (blk_cell BK612.out 1).trans rfl⟩ (fun hHeld => ?_); refine with_tabW impl_StoreOk.tab8 impl_StoreOk.bits8 (fun HT_ HW_ => ?_)
          generalize w28.drew = w30 at HO609 HO615 BK601 BK612 HB hHeld ⊢
          refine pt_ 0 45 1 ?_
          refine pt_ 1 46 3 ?_
          refine pt_ 2 47 7 ?_
          refine pt_ 4 49 23 ?_
          refine tt_ 3 48 31 ?_
          refine one_ (i := 5) (N := some 50) (lz_ 8 63) rfl rfl (one_of HT_.out (by kernel_rfl)) (by decide) (fun K hK => ?_)
          refine goes_ Try.func64 (by kernel_rfl) rfl #[.slice Ao31 y613.length co31] (by rfl) rfl rfl (by (try simp only [List.map_toArray, List.map_cons, List.map_nil]); first | done | rfl | (simp only [List.length_drop, List.length_take]; rfl)) ?_
          with_reducible refine (impl_HeadOf.calls k2 _ _ y613 t616 t617 _ ?side1 ?side2 A21.out).mono ?_
          (case side1 => exact cr_ (Kd.R_reads' HO615.out).2.2)
          (case side2 => exact (Kd.R_reads' HO615.out).2.1)
          rintro e w32 ⟨rfl, hb⟩
          refine ⟨_, rfl, ?_⟩
          have n0_ := Aside0.mk (Kd.R_below (kr_ HO609.out) hb)
          have n1_ := Aside0.mk (Kd.R_below (kr_ HO615.out) hb)
          have n2_ := Aside0.mk (blk_below (kb_ BK601.out) hb)
          have n3_ := Aside0.mk (blk_below (kb_ BK612.out) hb)
          have n4_ := Aside0.mk (below_step (bs2_ HB GE601.out GE612.out) hb)
          clear HO609
          clear HO615
          clear BK601
          clear BK612
          clear HB
          have HO609 := n0_
          have HO615 := n1_
          have BK601 := n2_
          have BK612 := n3_
          have HB := n4_
          clear n0_ n1_ n2_ n3_ n4_
          (try clear hb)
          (try clear hb2)
          (try clear hk)
          (try clear hi)
          refine hK.out _ _ ⟨(blk_cell BK612.out 0).trans rfl, (blk_cell BK612.out 1).trans rfl⟩ (fun hHeld => ?_)
          clear hK K
          refine norm_ (a' := ?_) ?_ ?_
          rotate_left
          ·show Act.put _ (some 50) _ = _
           simp only [Act.put, List.setIfInBounds_toArray, List.set_cons_zero, List.set_cons_succ, i64_w, i32_w]
           rfl
          refine pt_ 6 51 127 ?_
          refine pt_ 7 52 255 ?_
          refine done_ (done_of HT_.out (by kernel_rfl)) ?_
          try go_wp2
          go_ret
          exact ⟨e2_, by repeat (first | (with_reducible first | exact HB.out | apply below_alloc | apply pw_below_drewN | apply below_drew1 | refine below_set ?_ GE601.out | refine below_set ?_ GE612.out) | exact HB.out)⟩
         ·rw [if_neg c22] at H
          have c22b0 : (!(t605 == t616) || (!(t606.toList == t617.toList))) = false := by simpa using c22
          clear c22
          have H' := Aside0.mk H
          clear H
          have hcz33_0 := bc0_ BK601.out
          have hcz33_1 := bc1_ BK601.out
          have hcz33_2 := bc2_ BK601.out
          have hcz33_3 := bc3_ BK601.out
          have hcz33_4 := bc4_ BK601.out
          have hfz33_0 := blk_frozen BK601.out 0
          have hfz33_1 := blk_frozen BK601.out 1
          have hfz33_2 := blk_frozen BK601.out 2
          have hfz33_3 := blk_frozen BK601.out 3
          have hfz33_4 := blk_frozen BK601.out 4
          try go_wp2_with (first | ((with_reducible refine gk_ 39 ?_); refine gl_ 37 Try.func39 #[.slice A0_3 l0_3.length c0_3, .int .i64 x4_2] ?_; (with_reducible refine (impl_GetCommit.calls k2 _ _ l0_3 x4_2 t605 t606 t607 t610 true _ ?side1 ?side2 A18.out).mono ?_); (case side1 => exact cr_ (Kd.C_below HR0_3.out HB.out)); (case side2 => exact HC0_3.out); rintro e w34 ⟨v608, rfl, ho0, hb⟩; refine ⟨_, rfl, ?_⟩; have HO609 := Aside0.mk (Kd.R_lower (Kd.R_new' ho0 (Kd.R_lt (kr_ HO_3.out))) (below_size (bs1_ HB GE601.out))); replace HO_3 := Aside0.mk (Kd.R_elder' (kr_ HO_3.out) (Kd.R_base ho0) hb); replace BK601 := Aside0.mk (blk_below (kb_ BK601.out) hb); replace HB := Aside0.mk (below_step (bs1_ HB GE601.out) hb); clear hb ho0) | ((with_reducible refine gate_dst (N := 5) rfl ?_); (try (refine gate_guard (by rfl) ?_; dsimp only)); refine box_event ?hg (N := 5) ?hd (cs := #[.int .i64 0, .string (⟨#[]⟩ : ByteArray)]) (t := 31) ?hr ?_; (case hd => rfl); (case hg => rfl); (case hr => first | (go_simp; done) | (go_simp; rfl)); intro gb612 hg w35 hbox hb; replace HO_3 := Aside0.mk (Kd.R_below (kr_ HO_3.out) hb); replace HO609 := Aside0.mk (Kd.R_below (kr_ HO609.out) hb); have BK612 := Aside0.mk (hbox); have GW612 := Aside0.mk ((by rw [hg]; exact (below_size (bs1_ HB GE601.out)) : w.heap.size ≤ gb612)); have GE612 := Aside0.mk ((by rw [hg]; exact (below_size (bs1_ HB GE601.out)) : w.heap.size ≤ gb612)); replace HB := Aside0.mk (below_step (bs1_ HB GE601.out) hb); have NB601_612 := Aside0.mk ((by rw [hg]; exact Nat.ne_of_lt (blk_lt (kb_ BK601.out)) : gb601 ≠ gb612)); have NB612_601 := Aside0.mk ((by rw [hg]; exact Nat.ne_of_gt (blk_lt (kb_ BK601.out)) : gb612 ≠ gb601)); replace BK601 := Aside0.mk (blk_below (kb_ BK601.out) hb); clear hb hbox hg; have hnb36 := NB612_601.out; have hnc36 := NB601_612.out; have hcz37_0 := bc0_ BK612.out; have hcz37_1 := bc1_ BK612.out; have hfz37_0 := blk_frozen BK612.out 0; have hfz37_1 := blk_frozen BK612.out 1; obtain ⟨Ao39, co39, eo39⟩ := Kd.R_slice HO609.out; subst eo39) | ((with_reducible refine gate_builtin (b := .append) (xs := #[.tmp 42, .tmp 43]) rfl ?_); (try (refine gate_guard (by rfl) ?_; dsimp only)); at_builtin; refine Kd.R_append_rows Kd.string (w0 := w) w.heap.size rfl (.tmp 42) (.tmp 43) 25 9 (.string ⟨#[]⟩) 16 rfl Try.underlying25 info9 rfl (by decide) (by omega) u3 x3_2 t607 _ _ _ (fun k_ => some k_ ≠ (.slice Ao39 t607.length co39 : Value).ownBlock) (fun _ => False) rfl rfl ?aO ?aR (fun _ _ h => h) (fun _ h => h.elim) ?aF ?aB ?aS ?aL ?_; (case aR => refine (Kd.R_reads' (e := 9) (base := w.heap.size) (ok := fun k_ => (True ∧ some k_ ≠ (u3 : Value).ownBlock)) (n := t607.length) (c := co39) ?_).2.2; exact (kr_ ((Kd.R_mono (Kd.R_far (p := ⟨gb612, 1, none⟩) (Kd.R_far (p := ⟨gb612, 0, none⟩) (Kd.R_types HO609.out BK612.out (by decide)) (fun _ hk => hk.2) (.int .i64 t605)) (fun _ hk => hk.2) (.string t606)) (fun _ h_ => h_.1))))); (case aB => exact (bs2_ HB GE601.out GE612.out)); (case aF => exact (fun k_ hk => Kd.fresh' (Kd.R_lt (kr_ ((Kd.R_mono (Kd.R_far (p := ⟨gb612, 1, none⟩) (Kd.R_far (p := ⟨gb612, 0, none⟩) (Kd.R_types HO609.out BK612.out (by decide)) (fun _ hk => hk.2) (.int .i64 t605)) (fun _ hk => hk.2) (.string t606)) (fun _ h_ => h_.1))))) k_ hk)); (case aO => exact (kr_ (Kd.R_mono (Kd.R_far (p := ⟨gb612, 1, none⟩) (Kd.R_far (p := ⟨gb612, 0, none⟩) (Kd.R_types HO_3.out BK612.out (by decide)) (fun _ hk => hk.2) (.int .i64 t605)) (fun _ hk => hk.2) (.string t606)) (fun _ hk => hk.1.2)))); (case aS => exact (below_size (bs2_ HB GE601.out GE612.out))); (case aL => have := LMc19.out; omega); intro v614 w38 ho hb hg hat; rw [← Ny613.out] at ho; replace BK601 := Aside0.mk (blk_grown (g := gb601) (o := .cells #[.slice A0_0 l0_0.length c0_0, .int .i64 a0_1, .string a0_2, .slice A0_3 l0_3.length c0_3, .int .i64 a0_4] 88 (0, 0)) (by (with_reducible repeat (first | refine blk_drewN ?_ _ | refine blk_drew ?_ | refine blk_alloc ?_ _)); refine blk_far ?_ NB601_612.out _; (with_reducible repeat (first | refine blk_drewN ?_ _ | refine blk_drew ?_ | refine blk_alloc ?_ _)); refine blk_far ?_ NB601_612.out _; (with_reducible repeat (first | refine blk_drewN ?_ _ | refine blk_drew ?_ | refine blk_alloc ?_ _)); exact BK601.out) hg (Kd.R_ne HO_3.out BK601.out (by decide))); replace HO609 := Aside0.mk (Kd.R_after (ok := (fun _ => True)) (kr_ (Kd.R_mono (Kd.R_far (p := ⟨gb612, 1, none⟩) (Kd.R_far (p := ⟨gb612, 0, none⟩) (Kd.R_types HO609.out BK612.out (by decide)) (fun _ hk => hk.2) (.int .i64 t605)) (fun _ hk => hk.2) (.string t606)) (fun _ hk => ⟨trivial, hk.1.2⟩))) hg hat); replace BK612 := Aside0.mk (blk_grown (g := gb612) (o := .cells #[.int .i64 t605, .string t606] 31 (0, 0)) (by (with_reducible repeat (first | refine blk_drewN ?_ _ | refine blk_drew ?_ | refine blk_alloc ?_ _)); refine blk_put (cs := #[.int .i64 t605, .string (⟨#[]⟩ : ByteArray)]) ?_ 1 _ rfl; (with_reducible repeat (first | refine blk_drewN ?_ _ | refine blk_drew ?_ | refine blk_alloc ?_ _)); refine blk_put (cs := #[.int .i64 0, .string (⟨#[]⟩ : ByteArray)]) ?_ 0 _ rfl; (with_reducible repeat (first | refine blk_drewN ?_ _ | refine blk_drew ?_ | refine blk_alloc ?_ _)); exact BK612.out) hg (Kd.R_ne HO_3.out BK612.out (by decide))); replace HB := Aside0.mk (hb); have HO615 := Aside0.mk (ho); clear HO_3; clear ho hb hg hat))
          have n0_ := Aside0.mk (Kd.R_drew HO609.out)
          have n1_ := Aside0.mk (Kd.R_drew HO615.out)
          have n2_ := Aside0.mk (blk_drew BK601.out)
          have n3_ := Aside0.mk (blk_drew BK612.out)
          have n4_ := Aside0.mk (below_drew1 HB.out)
          clear HO609
          clear HO615
          clear BK601
          clear BK612
          clear HB
          have HO609 := n0_
          have HO615 := n1_
          have BK601 := n2_
          have BK612 := n3_
          have HB := n4_
          clear n0_ n1_ n2_ n3_ n4_
          obtain ⟨Ao41, co41, eo41⟩ := Kd.R_slice HO615.out
          (first | subst eo41 | (injection eo41 with f1_ f2_ f3_; have f4_ := f1_.symm; have f5_ := f3_.symm; clear f1_ f2_ f3_; subst f4_; subst f5_))
          refine start_ (n := 8) (S := fun w' => w'.cell? ⟨gb612, 0, none⟩ = some (.int .i64 t605) ∧ w'.cell? ⟨gb612, 1, none⟩ = some (.string t606)) (ds := []) (lz_ 8 0) (by kernel_rfl) rfl rfl ⟨(blk_cell BK612.out 0).trans rfl, (blk_cell BK612.out 1).trans rfl⟩ (fun hHeld => ?_); refine with_tabW impl_StoreOk.tab8 impl_StoreOk.bits8 (fun HT_ HW_ => ?_)
          generalize w38.drew = w40 at HO609 HO615 BK601 BK612 HB hHeld ⊢
          refine pt_ 0 45 1 ?_
          refine pt_ 1 46 3 ?_
          refine pt_ 2 47 7 ?_
          refine pt_ 4 49 23 ?_
          refine tt_ 3 48 31 ?_
          refine one_ (i := 5) (N := some 50) (lz_ 8 63) rfl rfl (one_of HT_.out (by kernel_rfl)) (by decide) (fun K hK => ?_)
          refine goes_ Try.func64 (by kernel_rfl) rfl #[.slice Ao41 y613.length co41] (by rfl) rfl rfl (by (try simp only [List.map_toArray, List.map_cons, List.map_nil]); first | done | rfl | (simp only [List.length_drop, List.length_take]; rfl)) ?_
          with_reducible refine (impl_HeadOf.calls k2 _ _ y613 t616 t617 _ ?side1 ?side2 A21.out).mono ?_
          (case side1 => exact cr_ (Kd.R_reads' HO615.out).2.2)
          (case side2 => exact (Kd.R_reads' HO615.out).2.1)
          rintro e w42 ⟨rfl, hb⟩
          refine ⟨_, rfl, ?_⟩
          have n0_ := Aside0.mk (Kd.R_below (kr_ HO609.out) hb)
          have n1_ := Aside0.mk (Kd.R_below (kr_ HO615.out) hb)
          have n2_ := Aside0.mk (blk_below (kb_ BK601.out) hb)
          have n3_ := Aside0.mk (blk_below (kb_ BK612.out) hb)
          have n4_ := Aside0.mk (below_step (bs2_ HB GE601.out GE612.out) hb)
          clear HO609
          clear HO615
          clear BK601
          clear BK612
          clear HB
          have HO609 := n0_
          have HO615 := n1_
          have BK601 := n2_
          have BK612 := n3_
          have HB := n4_
          clear n0_ n1_ n2_ n3_ n4_
          (try clear hb)
          (try clear hb2)
          (try clear hk)
          (try clear hi)
          refine hK.out _ _ ⟨(blk_cell BK612.out 0).trans rfl, (blk_cell BK612.out 1).trans rfl⟩ (fun hHeld => ?_)
          clear hK K
          refine norm_ (a' := ?_) ?_ ?_
          rotate_left
          ·show Act.put _ (some 50) _ = _
           simp only [Act.put, List.setIfInBounds_toArray, List.set_cons_zero, List.set_cons_succ, i64_w, i32_w]
           rfl
          refine pt_ 6 51 127 ?_
          refine pt_ 7 52 255 ?_
          refine done_ (done_of HT_.out (by kernel_rfl)) ?_
          try go_wp2
          go_roundg k2
          case measure => have := HJ1.out; have := HK2.out; omega
          case rel => exact ⟨(y613), (t610), e1_, H', ⟨by have := HJ1.out; have := HK2.out; omega⟩, ⟨by (with_reducible repeat (first | apply Kd.R_alloc | apply Kd.R_drewN | apply Kd.R_drew)); exact Kd.R_mono HO615.out (fun _ hk => trivial)⟩, ⟨by (with_reducible repeat (first | refine blk_drewN ?_ _ | refine blk_drew ?_ | refine blk_alloc ?_ _)); exact BK601.out⟩, ⟨by repeat (first | (with_reducible first | exact HB.out | apply below_alloc | apply pw_below_drewN | apply below_drew1 | refine below_set ?_ GE601.out | refine below_set ?_ GE612.out) | exact HB.out)⟩⟩
        ·replace c20 := Bool.eq_false_iff.mpr c20
         subst c20
         rw [if_neg nf_] at H
         obtain rfl := Option.some.inj H
         have hcz43_0 := bc0_ BK601.out
         have hcz43_1 := bc1_ BK601.out
         have hcz43_2 := bc2_ BK601.out
         have hcz43_3 := bc3_ BK601.out
         have hcz43_4 := bc4_ BK601.out
         have hfz43_0 := blk_frozen BK601.out 0
         have hfz43_1 := blk_frozen BK601.out 1
         have hfz43_2 := blk_frozen BK601.out 2
         have hfz43_3 := blk_frozen BK601.out 3
         have hfz43_4 := blk_frozen BK601.out 4
         try go_wp2_with (first | ((with_reducible refine gk_ 39 ?_); refine gl_ 37 Try.func39 #[.slice A0_3 l0_3.length c0_3, .int .i64 x4_2] ?_; (with_reducible refine (impl_GetCommit.calls k2 _ _ l0_3 x4_2 t605 t606 t607 t610 false _ ?side1 ?side2 A18.out).mono ?_); (case side1 => exact cr_ (Kd.C_below HR0_3.out HB.out)); (case side2 => exact HC0_3.out); rintro e w44 ⟨v608, rfl, ho0, hb⟩; refine ⟨_, rfl, ?_⟩; have HO609 := Aside0.mk (Kd.R_lower (Kd.R_new' ho0 (Kd.R_lt (kr_ HO_3.out))) (below_size (bs1_ HB GE601.out))); replace HO_3 := Aside0.mk (Kd.R_elder' (kr_ HO_3.out) (Kd.R_base ho0) hb); replace BK601 := Aside0.mk (blk_below (kb_ BK601.out) hb); replace HB := Aside0.mk (below_step (bs1_ HB GE601.out) hb); clear hb ho0) | ((with_reducible refine gate_dst (N := 5) rfl ?_); (try (refine gate_guard (by rfl) ?_; dsimp only)); refine box_event ?hg (N := 5) ?hd (cs := #[.int .i64 0, .string (⟨#[]⟩ : ByteArray)]) (t := 31) ?hr ?_; (case hd => rfl); (case hg => rfl); (case hr => first | (go_simp; done) | (go_simp; rfl)); intro gb612 hg w45 hbox hb; replace HO_3 := Aside0.mk (Kd.R_below (kr_ HO_3.out) hb); replace HO609 := Aside0.mk (Kd.R_below (kr_ HO609.out) hb); have BK612 := Aside0.mk (hbox); have GW612 := Aside0.mk ((by rw [hg]; exact (below_size (bs1_ HB GE601.out)) : w.heap.size ≤ gb612)); have GE612 := Aside0.mk ((by rw [hg]; exact (below_size (bs1_ HB GE601.out)) : w.heap.size ≤ gb612)); replace HB := Aside0.mk (below_step (bs1_ HB GE601.out) hb); have NB601_612 := Aside0.mk ((by rw [hg]; exact Nat.ne_of_lt (blk_lt (kb_ BK601.out)) : gb601 ≠ gb612)); have NB612_601 := Aside0.mk ((by rw [hg]; exact Nat.ne_of_gt (blk_lt (kb_ BK601.out)) : gb612 ≠ gb601)); replace BK601 := Aside0.mk (blk_below (kb_ BK601.out) hb); clear hb hbox hg; have hnb46 := NB612_601.out; have hnc46 := NB601_612.out; have hcz47_0 := bc0_ BK612.out; have hcz47_1 := bc1_ BK612.out; have hfz47_0 := blk_frozen BK612.out 0; have hfz47_1 := blk_frozen BK612.out 1; obtain ⟨Ao49, co49, eo49⟩ := Kd.R_slice HO609.out; subst eo49) | ((with_reducible refine gate_builtin (b := .append) (xs := #[.tmp 42, .tmp 43]) rfl ?_); (try (refine gate_guard (by rfl) ?_; dsimp only)); at_builtin; refine Kd.R_append_rows Kd.string (w0 := w) w.heap.size rfl (.tmp 42) (.tmp 43) 25 9 (.string ⟨#[]⟩) 16 rfl Try.underlying25 info9 rfl (by decide) (by omega) u3 x3_2 t607 _ _ _ (fun k_ => some k_ ≠ (.slice Ao49 t607.length co49 : Value).ownBlock) (fun _ => False) rfl rfl ?aO ?aR (fun _ _ h => h) (fun _ h => h.elim) ?aF ?aB ?aS ?aL ?_; (case aR => refine (Kd.R_reads' (e := 9) (base := w.heap.size) (ok := fun k_ => (True ∧ some k_ ≠ (u3 : Value).ownBlock)) (n := t607.length) (c := co49) ?_).2.2; exact (kr_ ((Kd.R_mono (Kd.R_far (p := ⟨gb612, 1, none⟩) (Kd.R_far (p := ⟨gb612, 0, none⟩) (Kd.R_types HO609.out BK612.out (by decide)) (fun _ hk => hk.2) (.int .i64 t605)) (fun _ hk => hk.2) (.string t606)) (fun _ h_ => h_.1))))); (case aB => exact (bs2_ HB GE601.out GE612.out)); (case aF => exact (fun k_ hk => Kd.fresh' (Kd.R_lt (kr_ ((Kd.R_mono (Kd.R_far (p := ⟨gb612, 1, none⟩) (Kd.R_far (p := ⟨gb612, 0, none⟩) (Kd.R_types HO609.out BK612.out (by decide)) (fun _ hk => hk.2) (.int .i64 t605)) (fun _ hk => hk.2) (.string t606)) (fun _ h_ => h_.1))))) k_ hk)); (case aO => exact (kr_ (Kd.R_mono (Kd.R_far (p := ⟨gb612, 1, none⟩) (Kd.R_far (p := ⟨gb612, 0, none⟩) (Kd.R_types HO_3.out BK612.out (by decide)) (fun _ hk => hk.2) (.int .i64 t605)) (fun _ hk => hk.2) (.string t606)) (fun _ hk => hk.1.2)))); (case aS => exact (below_size (bs2_ HB GE601.out GE612.out))); (case aL => have := LMc19.out; omega); intro v614 w48 ho hb hg hat; rw [← Ny613.out] at ho; replace BK601 := Aside0.mk (blk_grown (g := gb601) (o := .cells #[.slice A0_0 l0_0.length c0_0, .int .i64 a0_1, .string a0_2, .slice A0_3 l0_3.length c0_3, .int .i64 a0_4] 88 (0, 0)) (by (with_reducible repeat (first | refine blk_drewN ?_ _ | refine blk_drew ?_ | refine blk_alloc ?_ _)); refine blk_far ?_ NB601_612.out _; (with_reducible repeat (first | refine blk_drewN ?_ _ | refine blk_drew ?_ | refine blk_alloc ?_ _)); refine blk_far ?_ NB601_612.out _; (with_reducible repeat (first | refine blk_drewN ?_ _ | refine blk_drew ?_ | refine blk_alloc ?_ _)); exact BK601.out) hg (Kd.R_ne HO_3.out BK601.out (by decide))); replace HO609 := Aside0.mk (Kd.R_after (ok := (fun _ => True)) (kr_ (Kd.R_mono (Kd.R_far (p := ⟨gb612, 1, none⟩) (Kd.R_far (p := ⟨gb612, 0, none⟩) (Kd.R_types HO609.out BK612.out (by decide)) (fun _ hk => hk.2) (.int .i64 t605)) (fun _ hk => hk.2) (.string t606)) (fun _ hk => ⟨trivial, hk.1.2⟩))) hg hat); replace BK612 := Aside0.mk (blk_grown (g := gb612) (o := .cells #[.int .i64 t605, .string t606] 31 (0, 0)) (by (with_reducible repeat (first | refine blk_drewN ?_ _ | refine blk_drew ?_ | refine blk_alloc ?_ _)); refine blk_put (cs := #[.int .i64 t605, .string (⟨#[]⟩ : ByteArray)]) ?_ 1 _ rfl; (with_reducible repeat (first | refine blk_drewN ?_ _ | refine blk_drew ?_ | refine blk_alloc ?_ _)); refine blk_put (cs := #[.int .i64 0, .string (⟨#[]⟩ : ByteArray)]) ?_ 0 _ rfl; (with_reducible repeat (first | refine blk_drewN ?_ _ | refine blk_drew ?_ | refine blk_alloc ?_ _)); exact BK612.out) hg (Kd.R_ne HO_3.out BK612.out (by decide))); replace HB := Aside0.mk (hb); have HO615 := Aside0.mk (ho); clear HO_3; clear ho hb hg hat))
         have n0_ := Aside0.mk (Kd.R_drew HO609.out)
         have n1_ := Aside0.mk (Kd.R_drew HO615.out)
         have n2_ := Aside0.mk (blk_drew BK601.out)
         have n3_ := Aside0.mk (blk_drew BK612.out)
         have n4_ := Aside0.mk (below_drew1 HB.out)
         clear HO609
         clear HO615
         clear BK601
         clear BK612
         clear HB
         have HO609 := n0_
         have HO615 := n1_
         have BK601 := n2_
         have BK612 := n3_
         have HB := n4_
         clear n0_ n1_ n2_ n3_ n4_
         refine start_ (n := 8) (S := fun w' => True) (ds := []) (lz_ 8 0) (by kernel_rfl) rfl rfl trivial (fun hHeld => ?_); refine with_tabW impl_StoreOk.tab8 impl_StoreOk.bits8 (fun HT_ HW_ => ?_)
         generalize w48.drew = w50 at HO609 HO615 BK601 BK612 HB hHeld ⊢
         refine pt_ 0 45 1 ?_
         refine pt_ 1 46 3 ?_
         refine pt_ 2 47 7 ?_
         refine ut_ 3 48 15 ?_
         refine ut_ 4 49 31 ?_
         refine ut_ 5 50 63 ?_
         refine ut_ 6 51 127 ?_
         refine pt_ 7 52 255 ?_
         refine done_ (done_of HT_.out (by kernel_rfl)) ?_
         try go_wp2
         go_ret
         exact ⟨e2_, by repeat (first | (with_reducible first | exact HB.out | apply below_alloc | apply pw_below_drewN | apply below_drew1 | refine below_set ?_ GE601.out | refine below_set ?_ GE612.out) | exact HB.out)⟩
       ·rw [if_neg c19] at H
        exact absurd H (by simp)
      ·rw [if_neg c17] at H
       have c17b0 := decide_eq_false c17
       clear c17
       replace H := Option.bind_eq_some_iff.mp H
       obtain ⟨t604, A510, H⟩ := H
       have A51 := Aside0.mk A510
       clear A510
       obtain rfl := Option.some.inj H
       have hcz52_0 := bc0_ BK601.out
       have hcz52_1 := bc1_ BK601.out
       have hcz52_2 := bc2_ BK601.out
       have hcz52_3 := bc3_ BK601.out
       have hcz52_4 := bc4_ BK601.out
       have hfz52_0 := blk_frozen BK601.out 0
       have hfz52_1 := blk_frozen BK601.out 1
       have hfz52_2 := blk_frozen BK601.out 2
       have hfz52_3 := blk_frozen BK601.out 3
       have hfz52_4 := blk_frozen BK601.out 4
       obtain ⟨Ao53, co53, eo53⟩ := Kd.R_slice HO_3.out
       subst eo53
       go_wp2_with (first | ((with_reducible refine gk_ 112 ?_); refine gl_ 58 Try.func112 #[.slice Ao53 x3_2.length co53, .slice A0_0 l0_0.length c0_0] ?_; (with_reducible refine (slices_Equal_string_string.calls k2 _ _ x3_2 _ _ l0_0 t604 _ ?side1 ?side2 ?side3 ?side4 A51.out).mono ?_); (case side1 => exact cr_ (Kd.R_reads' HO_3.out).2.2); (case side2 => exact (Kd.R_reads' HO_3.out).2.1); (case side3 => exact cr_ (Kd.C_below HR0_0.out HB.out)); (case side4 => exact HC0_0.out); rintro e w' ⟨rfl, ⟨nd, rfl⟩⟩; refine ⟨_, rfl, ?_⟩))
       go_ret
       exact ⟨e2_, by repeat (first | (with_reducible first | exact HB.out | apply below_alloc | apply pw_below_drewN | apply below_drew1 | refine below_set ?_ GE601.out) | exact HB.out)⟩
end Go.Proofs.Ytcogimnpffnanaa.Q
end
section
namespace Go.Proofs.Ytcogimnpffnanaa.Q
open Go.RowKit Go.Proofs.YtcogimnpffnanaaW.PrintWords Go.Proofs.YtcogimnpffnanaaW.PrintLast Go.Proofs.YtcogimnpffnanaaW.PrintMore
attribute [local go_sem] max2_int min2_int max_two min_two max_three min_three max_four min_four   -- for this text's walks alone
set_option linter.unusedVariables false
set_option linter.unusedSimpArgs false
attribute [local go_sem high] eqA31
mutual
def spec_l12Replay.l0 : Nat → List Int → Int → List ByteArray → Int → ByteArray → Option (List ByteArray × Int × ByteArray × Bool)
 | 0, _, _, _, _, _ => none
 | k + 1, x0, x5, x608000, x608001, x608002 => if x5 < (x0.length : Int) then ((spec_GetCommit.f k x0 x5).bind fun bt608 => (if bt608.2.2.2.2 = true then (spec_l12Replay.j1 k x0 bt608.2.2.1 bt608.2.2.2.1 (decide ((wrap64 ((x608000.length : Int) + (bt608.2.2.1.length : Int))) > 200)) x608000 x608001 x608002 bt608.1 bt608.2.1) else (spec_l12Replay.j1 k x0 bt608.2.2.1 bt608.2.2.2.1 true x608000 x608001 x608002 bt608.1 bt608.2.1))) else (some (x608000, x608001, x608002, true))
def spec_l12Replay.j1 : Nat → List Int → List ByteArray → Int → Bool → List ByteArray → Int → ByteArray → Int → ByteArray → Option (List ByteArray × Int × ByteArray × Bool)
 | 0, _, _, _, _, _, _, _, _, _ => none
 | k + 1, x0, x7, x8, x33, x608000, x608001, x608002, x616000, x616001 => if x33 = true then (some (x608000, x608001, x608002, false)) else (if x608000.length + x7.length < 8796093022208 then ((some (x608000 ++ x7 : List ByteArray)).bind fun y616 => ((spec_HeadOf.f k y616).bind fun bt619 => (if (!(x616000 == bt619.1) || (!(x616001.toList == bt619.2.toList))) = true then (some (y616, x616000, x616001, false)) else (spec_l12Replay.l0 k x0 x8 y616 x616000 x616001)))) else (none))
end
def spec_l12Replay.f (k : Nat) (l0 : List Int) : Option (List ByteArray × Int × ByteArray × Bool) := (spec_LogNew.f k).bind fun bt602 => (spec_l12Replay.l0 k l0 0 bt602.1 bt602.2.1 bt602.2.2)
theorem spec_l12Replay.mono_l : ∀ k, (∀ y0 y1 y2 y3 y4, LeO (spec_l12Replay.l0 k y0 y1 y2 y3 y4) (spec_l12Replay.l0 (k + 1) y0 y1 y2 y3 y4)) ∧ (∀ y0 y1 y2 y3 y4 y5 y6 y7 y8, LeO (spec_l12Replay.j1 k y0 y1 y2 y3 y4 y5 y6 y7 y8) (spec_l12Replay.j1 (k + 1) y0 y1 y2 y3 y4 y5 y6 y7 y8))
 | 0 => ⟨fun _ _ _ _ _ r h => by simp [spec_l12Replay.l0] at h, fun _ _ _ _ _ _ _ _ _ r h => by simp [spec_l12Replay.j1] at h⟩
 | k + 1 => by
  obtain ⟨ih0, ih1⟩ := spec_l12Replay.mono_l k
  refine ⟨?_, ?_⟩
  ·intro y0 y1 y2 y3 y4
   unfold spec_l12Replay.l0
   repeat' (with_reducible first | exact LeO.refl _ | exact LeO.none _ | apply ih0 | apply ih1 | apply spec_GetCommit.mono | apply spec_HeadOf.mono | apply spec_LogNew.mono | apply LeO.ite | refine LeO.bind ?_ fun _ => ?_)
  ·intro y0 y1 y2 y3 y4 y5 y6 y7 y8
   unfold spec_l12Replay.j1
   repeat' (with_reducible first | exact LeO.refl _ | exact LeO.none _ | apply ih0 | apply ih1 | apply spec_GetCommit.mono | apply spec_HeadOf.mono | apply spec_LogNew.mono | apply LeO.ite | refine LeO.bind ?_ fun _ => ?_)
theorem spec_l12Replay.mono : ∀ a0 k, LeO (spec_l12Replay.f k a0) (spec_l12Replay.f (k + 1) a0) := by
 intro a0 k
 obtain ⟨ih0, ih1⟩ := spec_l12Replay.mono_l k
 unfold spec_l12Replay.f
 repeat' (with_reducible first | exact LeO.refl _ | exact LeO.none _ | apply ih0 | apply ih1 | apply spec_GetCommit.mono | apply spec_HeadOf.mono | apply spec_LogNew.mono | apply LeO.ite | refine LeO.bind ?_ fun _ => ?_)
set_option maxHeartbeats 8000000 in
set_option maxRecDepth 100000 in
theorem spec_l12Replay.calls (k : Nat) (A0 : Option Addr) (c0 : Nat) (l0 : List Int) (r1 : List ByteArray) (r2 : Int) (r3 : ByteArray) (r4 : Bool) (w : World) (hr0 : Kd.C (Kd.int .u8) w A0 l0.length l0) (hc0 : l0.length ≤ c0) (h : spec_l12Replay.f k l0 = some (r1, r2, r3, r4)) :
  Calls Try.prog 145 #[.slice A0 l0.length c0] w fun e w' => ∃ v0_ : Value, e = .returned (.tuple #[.agg #[v0_, .int .i64 r2, .string r3], .bool r4]) ∧ Kd.R Kd.string 9 w' w.heap.size (fun _ => True) v0_ r1 ∧ Below w.heap.size w w' := by
 have hu74 := Try.underlying74
 have hu31 := Try.underlying31
 have HR0 := Aside0.mk hr0
 have HC0 := Aside0.mk hc0
 clear hr0 hc0
 have HB := Aside0.mk (Below.refl w.heap.size w)
 have H : ((spec_LogNew.f k).bind fun bt602 => (spec_l12Replay.l0 k l0 0 bt602.1 bt602.2.1 bt602.2.2)) = some (r1, r2, r3, r4) := h
 clear h
 replace H := Option.bind_eq_some_iff.mp H
 obtain ⟨⟨t602, t605, t606⟩, A20, H⟩ := H
 dsimp only at H
 have A2 := Aside0.mk A20
 clear A20
 have H' := Aside0.mk H
 clear H
 go_enter Try.func145, Try.ntmps145
 go_wp2_with (first | ((with_reducible refine gate_dst (N := 2) rfl ?_); (try (refine gate_guard (by rfl) ?_; dsimp only)); refine box_event ?hg (N := 2) ?hd (cs := #[.slice none 0 0, .int .i64 0, .string (⟨#[]⟩ : ByteArray)]) (t := 74) ?hr ?_; (case hd => rfl); (case hg => rfl); (case hr => first | (go_simp; done) | (go_simp; rfl)); intro gb601 hg w3 hbox hb; have BK601 := Aside0.mk (hbox); have GW601 := Aside0.mk ((by rw [hg]; exact (below_size (bw_ HB)) : w.heap.size ≤ gb601)); have GE601 := Aside0.mk ((by rw [hg]; exact (below_size (bw_ HB)) : w.heap.size ≤ gb601)); replace HB := Aside0.mk (below_step (bw_ HB) hb); clear hb hbox hg) | ((with_reducible refine gk_ 175 ?_); refine gl_ 10 Try.func175 #[] ?_; (with_reducible refine (spec_LogNew.calls k  t602 t605 t606 _ A2.out).mono ?_); rintro e w4 ⟨v603, rfl, ho0, hb⟩; refine ⟨_, rfl, ?_⟩; have HO604 := Aside0.mk (Kd.R_lower ho0 (below_size (bs1_ HB GE601.out))); replace BK601 := Aside0.mk (blk_below (g := gb601) (o := .cells #[.slice none 0 0, .int .i64 0, .string (⟨#[]⟩ : ByteArray)] 74 (0, 0)) (kb_ BK601.out) hb); replace HB := Aside0.mk (below_step (bs1_ HB GE601.out) hb); clear hb ho0) | ((with_reducible refine gate_dst (N := 4) rfl ?_); (try (refine gate_guard (by rfl) ?_; dsimp only)); refine box_event ?hg (N := 4) ?hd (cs := #[.slice none 0 0, .int .i64 0, .string (⟨#[]⟩ : ByteArray)]) (t := 74) ?hr ?_; (case hd => rfl); (case hg => rfl); (case hr => first | (go_simp; done) | (go_simp; rfl)); intro gb607 hg w5 hbox hb; replace HO604 := Aside0.mk (Kd.R_below (kr_ HO604.out) hb); have BK607 := Aside0.mk (hbox); have GW607 := Aside0.mk ((by rw [hg]; exact (below_size (bs1_ HB GE601.out)) : w.heap.size ≤ gb607)); have GE607 := Aside0.mk ((by rw [hg]; exact (below_size (bs1_ HB GE601.out)) : w.heap.size ≤ gb607)); replace HB := Aside0.mk (below_step (bs1_ HB GE601.out) hb); have NB601_607 := Aside0.mk ((by rw [hg]; exact Nat.ne_of_lt (blk_lt (g := gb601) (o := .cells #[.slice none 0 0, .int .i64 0, .string (⟨#[]⟩ : ByteArray)] 74 (0, 0)) (kb_ BK601.out)) : gb601 ≠ gb607)); have NB607_601 := Aside0.mk ((by rw [hg]; exact Nat.ne_of_gt (blk_lt (g := gb601) (o := .cells #[.slice none 0 0, .int .i64 0, .string (⟨#[]⟩ : ByteArray)] 74 (0, 0)) (kb_ BK601.out)) : gb607 ≠ gb601)); replace BK601 := Aside0.mk (blk_below (g := gb601) (o := .cells #[.slice none 0 0, .int .i64 0, .string (⟨#[]⟩ : ByteArray)] 74 (0, 0)) (kb_ BK601.out) hb); clear hb hbox hg; obtain ⟨Ao6, co6, eo6⟩ := Kd.R_slice HO604.out; subst eo6; have hnb7 := NB607_601.out; have hnc7 := NB601_607.out; have hcz8_0 := bc0_ BK607.out; have hcz8_1 := bc1_ BK607.out; have hcz8_2 := bc2_ BK607.out; have hfz8_0 := blk_frozen BK607.out 0; have hfz8_1 := blk_frozen BK607.out 1; have hfz8_2 := blk_frozen BK607.out 2))
 go_loopg [5] k (fun kq v5 w' => ∃ (x5_1 : Int) (x602001_1 : Int) (x602002_1 : ByteArray) (x608000_1 : List ByteArray) (x608001_1 : Int) (x608002_1 : ByteArray) (u608000 : Value), v5 = .int .i64 x5_1 ∧ Aside0 (spec_l12Replay.l0 kq l0 x5_1 x608000_1 x608001_1 x608002_1 = some (r1, r2, r3, r4)) ∧ Aside0 (kq ≤ k) ∧ Aside0 (Kd.R Kd.string 9 w' w.heap.size (fun _ => True) u608000 x608000_1) ∧ Aside0 (w'.heap[gb601]? = some (.cells #[(.slice none 0 0), .int .i64 x602001_1, .string x602002_1] 74 (0, 0))) ∧ Aside0 (w'.heap[gb607]? = some (.cells #[u608000, .int .i64 x608001_1, .string x608002_1] 74 (0, 0))) ∧ Aside0 (Below w.heap.size w w'))
 case atStart => exact ⟨(0), (0), ((⟨#[]⟩ : ByteArray)), (t602), (t605), (t606), (.slice Ao6 t602.length co6), e1_, H', ⟨Nat.le_refl _⟩, ⟨by (with_reducible repeat (first | apply Kd.R_alloc | apply Kd.R_drewN | apply Kd.R_drew)); exact Kd.R_mono (Kd.R_far (p := ⟨gb607, 2, none⟩) (Kd.R_far (p := ⟨gb607, 1, none⟩) (Kd.R_far (p := ⟨gb607, 0, none⟩) (Kd.R_types HO604.out BK607.out (by decide)) (fun _ hk => hk.2) (.slice Ao6 t602.length co6)) (fun _ hk => hk.2) (.int .i64 t605)) (fun _ hk => hk.2) (.string t606)) (fun _ hk => trivial)⟩, ⟨by (with_reducible repeat (first | refine blk_drewN ?_ _ | refine blk_drew ?_ | refine blk_alloc ?_ _)); refine blk_far ?_ NB601_607.out _; (with_reducible repeat (first | refine blk_drewN ?_ _ | refine blk_drew ?_ | refine blk_alloc ?_ _)); refine blk_far ?_ NB601_607.out _; (with_reducible repeat (first | refine blk_drewN ?_ _ | refine blk_drew ?_ | refine blk_alloc ?_ _)); refine blk_far ?_ NB601_607.out _; (with_reducible repeat (first | refine blk_drewN ?_ _ | refine blk_drew ?_ | refine blk_alloc ?_ _)); exact BK601.out⟩, ⟨by (with_reducible repeat (first | refine blk_drewN ?_ _ | refine blk_drew ?_ | refine blk_alloc ?_ _)); refine blk_put (cs := #[.slice Ao6 t602.length co6, .int .i64 t605, .string (⟨#[]⟩ : ByteArray)]) ?_ 2 _ rfl; (with_reducible repeat (first | refine blk_drewN ?_ _ | refine blk_drew ?_ | refine blk_alloc ?_ _)); refine blk_put (cs := #[.slice Ao6 t602.length co6, .int .i64 0, .string (⟨#[]⟩ : ByteArray)]) ?_ 1 _ rfl; (with_reducible repeat (first | refine blk_drewN ?_ _ | refine blk_drew ?_ | refine blk_alloc ?_ _)); refine blk_put (cs := #[.slice none 0 0, .int .i64 0, .string (⟨#[]⟩ : ByteArray)]) ?_ 0 _ rfl; (with_reducible repeat (first | refine blk_drewN ?_ _ | refine blk_drew ?_ | refine blk_alloc ?_ _)); exact BK607.out⟩, ⟨by repeat (first | (with_reducible first | exact HB.out | apply below_alloc | apply pw_below_drewN | apply below_drew1 | refine below_set ?_ GE601.out | refine below_set ?_ GE607.out) | exact HB.out)⟩⟩
 case round =>
  clear H'
  try clear c1
  try clear p2
  try clear c7
  try clear hcz8_0
  try clear hcz8_1
  try clear hcz8_2
  try clear hfz8_0
  try clear hfz8_1
  try clear hfz8_2
  obtain ⟨x5_1, x602001_1, x602002_1, x608000_1, x608001_1, x608002_1, u608000, rfl, HA, HK1, HO_608000, BK601, BK607, HB⟩ := hrel
  cases gk with
  | zero => exact absurd HA.out (by simp [spec_l12Replay.l0])
  | succ k1 =>
   have H := HA.out
   clear HA
   simp only [spec_l12Replay.l0] at H
   by_cases c9 : x5_1 < (l0.length : Int)
   ·rw [if_pos c9] at H
    have c9b0 := decide_eq_true c9
    clear c9
    replace H := Option.bind_eq_some_iff.mp H
    obtain ⟨⟨t608, t609, t610, t613, t614⟩, A100, H⟩ := H
    dsimp only at H
    have A10 := Aside0.mk A100
    clear A100
    have HC11 := Aside0.mk H
    clear H
    go_upto_region 5 with (first | ((with_reducible refine gk_ 52 ?_); refine gl_ 18 Try.func52 #[.slice A0 l0.length c0, .int .i64 x5_1] ?_; (with_reducible refine (spec_GetCommit.calls k1 _ _ l0 x5_1 t608 t609 t610 t613 t614 _ ?side1 ?side2 A10.out).mono ?_); (case side1 => exact cr_ (Kd.C_below HR0.out HB.out)); (case side2 => exact HC0.out); rintro e w12 ⟨v611, rfl, ho0, hb⟩; refine ⟨_, rfl, ?_⟩; have HO612 := Aside0.mk (Kd.R_lower (Kd.R_new' ho0 (Kd.R_lt (kr_ HO_608000.out))) (below_size (bs2_ HB GE601.out GE607.out))); replace HO_608000 := Aside0.mk (Kd.R_elder' (kr_ HO_608000.out) (Kd.R_base ho0) hb); replace BK601 := Aside0.mk (blk_below (kb_ BK601.out) hb); replace BK607 := Aside0.mk (blk_below (kb_ BK607.out) hb); replace HB := Aside0.mk (below_step (bs2_ HB GE601.out GE607.out) hb); clear hb ho0) | ((with_reducible refine gate_dst (N := 6) rfl ?_); (try (refine gate_guard (by rfl) ?_; dsimp only)); refine box_event ?hg (N := 6) ?hd (cs := #[.int .i64 0, .string (⟨#[]⟩ : ByteArray)]) (t := 31) ?hr ?_; (case hd => rfl); (case hg => rfl); (case hr => first | (go_simp; done) | (go_simp; rfl)); intro gb615 hg w13 hbox hb; replace HO_608000 := Aside0.mk (Kd.R_below (kr_ HO_608000.out) hb); replace HO612 := Aside0.mk (Kd.R_below (kr_ HO612.out) hb); have BK615 := Aside0.mk (hbox); have GW615 := Aside0.mk ((by rw [hg]; exact (below_size (bs2_ HB GE601.out GE607.out)) : w.heap.size ≤ gb615)); have GE615 := Aside0.mk ((by rw [hg]; exact (below_size (bs2_ HB GE601.out GE607.out)) : w.heap.size ≤ gb615)); replace HB := Aside0.mk (below_step (bs2_ HB GE601.out GE607.out) hb); have NB601_615 := Aside0.mk ((by rw [hg]; exact Nat.ne_of_lt (blk_lt (kb_ BK601.out)) : gb601 ≠ gb615)); have NB615_601 := Aside0.mk ((by rw [hg]; exact Nat.ne_of_gt (blk_lt (kb_ BK601.out)) : gb615 ≠ gb601)); replace BK601 := Aside0.mk (blk_below (kb_ BK601.out) hb); have NB607_615 := Aside0.mk ((by rw [hg]; exact Nat.ne_of_lt (blk_lt (kb_ BK607.out)) : gb607 ≠ gb615)); have NB615_607 := Aside0.mk ((by rw [hg]; exact Nat.ne_of_gt (blk_lt (kb_ BK607.out)) : gb615 ≠ gb607)); replace BK607 := Aside0.mk (blk_below (kb_ BK607.out) hb); clear hb hbox hg; have hnb14 := NB615_601.out; have hnc14 := NB601_615.out; have hnb15 := NB615_607.out; have hnc15 := NB607_615.out; have hcz16_0 := bc0_ BK615.out; have hcz16_1 := bc1_ BK615.out; have hfz16_0 := blk_frozen BK615.out 0; have hfz16_1 := blk_frozen BK615.out 1))
    (try simp only [Act.put, List.setIfInBounds_toArray, List.set_cons_zero, List.set_cons_succ])
    go_cut [33] (fun v33 wc => ∃ (kq : Nat) (x33_10 : Bool), v33 = .bool x33_10 ∧ Aside0 (spec_l12Replay.j1 kq l0 t610 t613 x33_10 x608000_1 x608001_1 x608002_1 t608 t609 = some (r1, r2, r3, r4)) ∧ Aside0 (kq ≤ k1) ∧ Aside0 (Kd.R Kd.string 9 wc w.heap.size (fun k_ => some k_ ≠ (u608000 : Value).ownBlock) v611 t610) ∧ Aside0 (Kd.R Kd.string 9 wc w.heap.size (fun k_ => some k_ ≠ (v611 : Value).ownBlock) u608000 x608000_1) ∧ Aside0 (wc.heap[gb601]? = some (.cells #[(.slice none 0 0), .int .i64 x602001_1, .string x602002_1] 74 (0, 0))) ∧ Aside0 (wc.heap[gb607]? = some (.cells #[u608000, .int .i64 x608001_1, .string x608002_1] 74 (0, 0))) ∧ Aside0 (wc.heap[gb615]? = some (.cells #[.int .i64 t608, .string t609] 31 (0, 0))) ∧ Aside0 (Below w.heap.size w wc))
    case first =>
     have H := HC11.out
     clear HC11
     by_cases c17 : t614 = true
     ·subst c17
      rw [if_pos rfl] at H
      have H' := Aside0.mk H
      clear H
      have hnb18 := NB607_601.out
      have hnc18 := NB601_607.out
      have hnb19 := NB607_615.out
      have hnc19 := NB615_607.out
      have hcz20_0 := bc0_ BK607.out
      have hcz20_1 := bc1_ BK607.out
      have hcz20_2 := bc2_ BK607.out
      have hfz20_0 := blk_frozen BK607.out 0
      have hfz20_1 := blk_frozen BK607.out 1
      have hfz20_2 := blk_frozen BK607.out 2
      obtain ⟨Ao21, co21, eo21⟩ := Kd.R_slice HO_608000.out
      subst eo21
      obtain ⟨Ao22, co22, eo22⟩ := Kd.R_slice HO612.out
      subst eo22
      go_wp2
      go_meet
      case rel => exact ⟨_, (decide ((wrap64 ((x608000_1.length : Int) + (t610.length : Int))) > 200)), e1_, H', ⟨by have := HK1.out; first | omega | exact Nat.le_refl _⟩, ⟨by (with_reducible repeat (first | apply Kd.R_alloc | apply Kd.R_drewN | apply Kd.R_drew)); exact Kd.R_mono (Kd.R_far (p := ⟨gb615, 1, none⟩) (Kd.R_far (p := ⟨gb615, 0, none⟩) (Kd.R_types HO612.out BK615.out (by decide)) (fun _ hk => hk.2) (.int .i64 t608)) (fun _ hk => hk.2) (.string t609)) (fun _ hk => hk.1.2)⟩, ⟨by (with_reducible repeat (first | apply Kd.R_alloc | apply Kd.R_drewN | apply Kd.R_drew)); exact Kd.R_mono (Kd.R_far (p := ⟨gb615, 1, none⟩) (Kd.R_far (p := ⟨gb615, 0, none⟩) (Kd.R_types HO_608000.out BK615.out (by decide)) (fun _ hk => hk.2) (.int .i64 t608)) (fun _ hk => hk.2) (.string t609)) (fun _ hk => hk.1.2)⟩, ⟨by (with_reducible repeat (first | refine blk_drewN ?_ _ | refine blk_drew ?_ | refine blk_alloc ?_ _)); refine blk_far ?_ NB601_615.out _; (with_reducible repeat (first | refine blk_drewN ?_ _ | refine blk_drew ?_ | refine blk_alloc ?_ _)); refine blk_far ?_ NB601_615.out _; (with_reducible repeat (first | refine blk_drewN ?_ _ | refine blk_drew ?_ | refine blk_alloc ?_ _)); exact BK601.out⟩, ⟨by (with_reducible repeat (first | refine blk_drewN ?_ _ | refine blk_drew ?_ | refine blk_alloc ?_ _)); refine blk_far ?_ NB607_615.out _; (with_reducible repeat (first | refine blk_drewN ?_ _ | refine blk_drew ?_ | refine blk_alloc ?_ _)); refine blk_far ?_ NB607_615.out _; (with_reducible repeat (first | refine blk_drewN ?_ _ | refine blk_drew ?_ | refine blk_alloc ?_ _)); exact BK607.out⟩, ⟨by (with_reducible repeat (first | refine blk_drewN ?_ _ | refine blk_drew ?_ | refine blk_alloc ?_ _)); refine blk_put (cs := #[.int .i64 t608, .string (⟨#[]⟩ : ByteArray)]) ?_ 1 _ rfl; (with_reducible repeat (first | refine blk_drewN ?_ _ | refine blk_drew ?_ | refine blk_alloc ?_ _)); refine blk_put (cs := #[.int .i64 0, .string (⟨#[]⟩ : ByteArray)]) ?_ 0 _ rfl; (with_reducible repeat (first | refine blk_drewN ?_ _ | refine blk_drew ?_ | refine blk_alloc ?_ _)); exact BK615.out⟩, ⟨by repeat (first | (with_reducible first | exact HB.out | apply below_alloc | apply pw_below_drewN | apply below_drew1 | refine below_set ?_ GE601.out | refine below_set ?_ GE607.out | refine below_set ?_ GE615.out) | exact HB.out)⟩⟩
     ·replace c17 := Bool.eq_false_iff.mpr c17
      subst c17
      rw [if_neg nf_] at H
      have H' := Aside0.mk H
      clear H
      go_wp2
      go_meet
      case rel => exact ⟨_, (true), e1_, H', ⟨by have := HK1.out; first | omega | exact Nat.le_refl _⟩, ⟨by (with_reducible repeat (first | apply Kd.R_alloc | apply Kd.R_drewN | apply Kd.R_drew)); exact Kd.R_mono (Kd.R_far (p := ⟨gb615, 1, none⟩) (Kd.R_far (p := ⟨gb615, 0, none⟩) (Kd.R_types HO612.out BK615.out (by decide)) (fun _ hk => hk.2) (.int .i64 t608)) (fun _ hk => hk.2) (.string t609)) (fun _ hk => hk.1.2)⟩, ⟨by (with_reducible repeat (first | apply Kd.R_alloc | apply Kd.R_drewN | apply Kd.R_drew)); exact Kd.R_mono (Kd.R_far (p := ⟨gb615, 1, none⟩) (Kd.R_far (p := ⟨gb615, 0, none⟩) (Kd.R_types HO_608000.out BK615.out (by decide)) (fun _ hk => hk.2) (.int .i64 t608)) (fun _ hk => hk.2) (.string t609)) (fun _ hk => hk.1.2)⟩, ⟨by (with_reducible repeat (first | refine blk_drewN ?_ _ | refine blk_drew ?_ | refine blk_alloc ?_ _)); refine blk_far ?_ NB601_615.out _; (with_reducible repeat (first | refine blk_drewN ?_ _ | refine blk_drew ?_ | refine blk_alloc ?_ _)); refine blk_far ?_ NB601_615.out _; (with_reducible repeat (first | refine blk_drewN ?_ _ | refine blk_drew ?_ | refine blk_alloc ?_ _)); exact BK601.out⟩, ⟨by (with_reducible repeat (first | refine blk_drewN ?_ _ | refine blk_drew ?_ | refine blk_alloc ?_ _)); refine blk_far ?_ NB607_615.out _; (with_reducible repeat (first | refine blk_drewN ?_ _ | refine blk_drew ?_ | refine blk_alloc ?_ _)); refine blk_far ?_ NB607_615.out _; (with_reducible repeat (first | refine blk_drewN ?_ _ | refine blk_drew ?_ | refine blk_alloc ?_ _)); exact BK607.out⟩, ⟨by (with_reducible repeat (first | refine blk_drewN ?_ _ | refine blk_drew ?_ | refine blk_alloc ?_ _)); refine blk_put (cs := #[.int .i64 t608, .string (⟨#[]⟩ : ByteArray)]) ?_ 1 _ rfl; (with_reducible repeat (first | refine blk_drewN ?_ _ | refine blk_drew ?_ | refine blk_alloc ?_ _)); refine blk_put (cs := #[.int .i64 0, .string (⟨#[]⟩ : ByteArray)]) ?_ 0 _ rfl; (with_reducible repeat (first | refine blk_drewN ?_ _ | refine blk_drew ?_ | refine blk_alloc ?_ _)); exact BK615.out⟩, ⟨by repeat (first | (with_reducible first | exact HB.out | apply below_alloc | apply pw_below_drewN | apply below_drew1 | refine below_set ?_ GE601.out | refine below_set ?_ GE607.out | refine below_set ?_ GE615.out) | exact HB.out)⟩⟩
    case rest =>
     clear HC11
     try clear c1
     try clear p2
     try clear c5
     try clear p6
     try clear c7
     try clear c9
     try clear c9b0
     try clear c14
     try clear c15
     try clear c17
     try clear c18
     try clear c19
     try clear hcz16_0
     try clear hcz16_1
     try clear hcz20_0
     try clear hcz20_1
     try clear hcz20_2
     try clear hcz8_0
     try clear hcz8_1
     try clear hcz8_2
     try clear hfz16_0
     try clear hfz16_1
     try clear hfz20_0
     try clear hfz20_1
     try clear hfz20_2
     try clear hfz8_0
     try clear hfz8_1
     try clear hfz8_2
     try clear p2
     obtain ⟨kq, x33_10, rfl, HA, HJ10, HO_7, HO_608000, BK601, BK607, BK615, HB⟩ := hcut
     cases kq with
     | zero => exact absurd HA.out (by simp [spec_l12Replay.j1])
     | succ kj10 =>
      have H := HA.out
      clear HA
      simp only [spec_l12Replay.j1] at H
      by_cases c23 : x33_10 = true
      ·subst c23
       rw [if_pos rfl] at H
       simp only [Option.some.injEq, Prod.mk.injEq] at H
       obtain ⟨rfl, rfl, rfl, rfl⟩ := H
       have hnb24 := NB607_601.out
       have hnc24 := NB601_607.out
       have hnb25 := NB607_615.out
       have hnc25 := NB615_607.out
       have hcz26_0 := bc0_ BK607.out
       have hcz26_1 := bc1_ BK607.out
       have hcz26_2 := bc2_ BK607.out
       have hfz26_0 := blk_frozen BK607.out 0
       have hfz26_1 := blk_frozen BK607.out 1
       have hfz26_2 := blk_frozen BK607.out 2
       obtain ⟨Ao27, co27, eo27⟩ := Kd.R_slice HO_608000.out
       subst eo27
       have hnb28 := NB601_615.out
       have hnc28 := NB615_601.out
       have hcz29_0 := bc0_ BK601.out
       have hcz29_1 := bc1_ BK601.out
       have hcz29_2 := bc2_ BK601.out
       have hfz29_0 := blk_frozen BK601.out 0
       have hfz29_1 := blk_frozen BK601.out 1
       have hfz29_2 := blk_frozen BK601.out 2
       go_wp2
       refine bodyPost_ret (results_ct rfl _ _ gb601 74 #[.slice Ao27 x608000_1.length co27, .int .i64 x608001_1, .string x608002_1] (0, 0) _ rfl (by (with_reducible repeat (first | refine blk_drewN ?_ _ | refine blk_drew ?_ | refine blk_alloc ?_ _)); refine blk_put (cs := #[.slice Ao27 x608000_1.length co27, .int .i64 x608001_1, .string x602002_1]) ?_ 2 _ rfl; (with_reducible repeat (first | refine blk_drewN ?_ _ | refine blk_drew ?_ | refine blk_alloc ?_ _)); refine blk_put (cs := #[.slice Ao27 x608000_1.length co27, .int .i64 x602001_1, .string x602002_1]) ?_ 1 _ rfl; (with_reducible repeat (first | refine blk_drewN ?_ _ | refine blk_drew ?_ | refine blk_alloc ?_ _)); refine blk_put (cs := #[.slice none 0 0, .int .i64 x602001_1, .string x602002_1]) ?_ 0 _ rfl; (with_reducible repeat (first | refine blk_drewN ?_ _ | refine blk_drew ?_ | refine blk_alloc ?_ _)); exact BK601.out) Try.underlying74 rfl (by kernel_rfl)) rfl ?_
       exact ⟨_, e2_, by (with_reducible repeat (first | apply Kd.R_alloc | apply Kd.R_drewN | apply Kd.R_drew)); exact Kd.R_mono (Kd.R_far (p := ⟨gb601, 2, none⟩) (Kd.R_far (p := ⟨gb601, 1, none⟩) (Kd.R_far (p := ⟨gb601, 0, none⟩) (Kd.R_types HO_608000.out BK601.out (by decide)) (fun _ hk => hk.2) (.slice Ao27 x608000_1.length co27)) (fun _ hk => hk.2) (.int .i64 x608001_1)) (fun _ hk => hk.2) (.string x608002_1)) (fun _ hk => trivial), by repeat (first | (with_reducible first | exact HB.out | apply below_alloc | apply pw_below_drewN | apply below_drew1 | refine below_set ?_ GE601.out | refine below_set ?_ GE607.out | refine below_set ?_ GE615.out) | exact HB.out)⟩
      ·replace c23 := Bool.eq_false_iff.mpr c23
       subst c23
       rw [if_neg nf_] at H
       by_cases c30 : x608000_1.length + t610.length < 8796093022208
       ·rw [if_pos c30] at H
        have LMc30 := Aside0.mk c30
        clear c30
        obtain ⟨y616, Ny616, H⟩ := sb_ (x608000_1 ++ t610) H
        replace H := Option.bind_eq_some_iff.mp H
        obtain ⟨⟨t619, t620⟩, A310, H⟩ := H
        dsimp only at H
        have A31 := Aside0.mk A310
        clear A310
        by_cases c32 : (!(t608 == t619) || (!(t609.toList == t620.toList))) = true
        ·rw [if_pos c32] at H
         have c32b0 : (!(t608 == t619) || (!(t609.toList == t620.toList))) = true := c32
         clear c32
         simp only [Option.some.injEq, Prod.mk.injEq] at H
         obtain ⟨rfl, rfl, rfl, rfl⟩ := H
         have hnb33 := NB607_601.out
         have hnc33 := NB601_607.out
         have hnb34 := NB607_615.out
         have hnc34 := NB615_607.out
         have hcz35_0 := bc0_ BK607.out
         have hcz35_1 := bc1_ BK607.out
         have hcz35_2 := bc2_ BK607.out
         have hfz35_0 := blk_frozen BK607.out 0
         have hfz35_1 := blk_frozen BK607.out 1
         have hfz35_2 := blk_frozen BK607.out 2
         obtain ⟨Ao37, co37, eo37⟩ := Kd.R_slice HO_7.out
         subst eo37
         try go_wp2_with (first | ((with_reducible refine gate_builtin (b := .append) (xs := #[.tmp 36, .tmp 37]) rfl ?_); (try (refine gate_guard (by rfl) ?_; dsimp only)); at_builtin; refine Kd.R_append_rows Kd.string (w0 := w) w.heap.size rfl (.tmp 36) (.tmp 37) 25 9 (.string ⟨#[]⟩) 16 rfl Try.underlying25 info9 rfl (by decide) (by omega) u608000 x608000_1 t610 _ _ _ (fun k_ => some k_ ≠ (.slice Ao37 t610.length co37 : Value).ownBlock) (fun _ => False) rfl rfl ?aO ?aR (fun _ _ h => h) (fun _ h => h.elim) ?aF ?aB ?aS ?aL ?_; (case aR => repeat (first | exact (Kd.R_reads' HO_7.out).2.2 | (with_reducible refine Kd.C_alloc ?_ _) | (with_reducible refine Kd.C_drewN ?_ _) | (with_reducible refine Kd.C_drew ?_))); (case aB => exact (bs3_ HB GE601.out GE607.out GE615.out)); (case aF => exact (fun k_ hk => Kd.fresh' (Kd.R_lt (kr_ HO_7.out)) k_ hk)); (case aO => exact (kr_ HO_608000.out)); (case aS => exact (below_size (bs3_ HB GE601.out GE607.out GE615.out))); (case aL => have := LMc30.out; omega); intro v617 w36 ho hb hg hat; rw [← Ny616.out] at ho; replace HO_7 := Aside0.mk (Kd.R_after (ok := (fun _ => True)) (kr_ (Kd.R_mono HO_7.out (fun _ hk => ⟨trivial, hk⟩))) hg hat); replace BK601 := Aside0.mk (blk_grown (kb_ BK601.out) hg (Kd.R_ne HO_608000.out BK601.out (by decide))); replace BK607 := Aside0.mk (blk_grown (kb_ BK607.out) hg (Kd.R_ne HO_608000.out BK607.out (by decide))); replace BK615 := Aside0.mk (blk_grown (kb_ BK615.out) hg (Kd.R_ne HO_608000.out BK615.out (by decide))); replace HB := Aside0.mk (hb); have HO618 := Aside0.mk (ho); clear HO_608000; clear ho hb hg hat; obtain ⟨Ao38, co38, eo38⟩ := Kd.R_slice HO618.out; subst eo38; have hcz39_0 := bc0_ BK607.out; have hcz39_1 := bc1_ BK607.out; have hcz39_2 := bc2_ BK607.out; have hfz39_0 := blk_frozen BK607.out 0; have hfz39_1 := blk_frozen BK607.out 1; have hfz39_2 := blk_frozen BK607.out 2; have hnb40 := NB615_601.out; have hnc40 := NB601_615.out; have hcz41_0 := bc0_ BK615.out; have hcz41_1 := bc1_ BK615.out; have hfz41_0 := blk_frozen BK615.out 0; have hfz41_1 := blk_frozen BK615.out 1))
         have n0_ : Aside0 (Kd.R Kd.string 9 (((w36.setCell ⟨gb607, 0, none⟩ (.slice Ao38 y616.length co38)).setCell ⟨gb607, 1, none⟩ (.int .i64 t608)).setCell ⟨gb607, 2, none⟩ (.string t609)) w.heap.size (fun k_ => some k_ ≠ (.slice Ao38 y616.length co38 : Value).ownBlock) (.slice Ao37 t610.length co37) t610) := ⟨by (with_reducible repeat (first | apply Kd.R_alloc | apply Kd.R_drewN | apply Kd.R_drew)); exact Kd.R_mono (Kd.R_far (p := ⟨gb607, 2, none⟩) (Kd.R_far (p := ⟨gb607, 1, none⟩) (Kd.R_far (p := ⟨gb607, 0, none⟩) (Kd.R_types HO_7.out BK607.out (by decide)) (fun _ hk => hk.2) (.slice Ao38 y616.length co38)) (fun _ hk => hk.2) (.int .i64 t608)) (fun _ hk => hk.2) (.string t609)) (fun _ hk => hk.1.2)⟩
         have n1_ : Aside0 (Kd.R Kd.string 9 (((w36.setCell ⟨gb607, 0, none⟩ (.slice Ao38 y616.length co38)).setCell ⟨gb607, 1, none⟩ (.int .i64 t608)).setCell ⟨gb607, 2, none⟩ (.string t609)) w.heap.size (fun k_ => some k_ ≠ (.slice Ao37 t610.length co37 : Value).ownBlock) (.slice Ao38 y616.length co38) y616) := ⟨by (with_reducible repeat (first | apply Kd.R_alloc | apply Kd.R_drewN | apply Kd.R_drew)); exact Kd.R_mono (Kd.R_far (p := ⟨gb607, 2, none⟩) (Kd.R_far (p := ⟨gb607, 1, none⟩) (Kd.R_far (p := ⟨gb607, 0, none⟩) (Kd.R_types HO618.out BK607.out (by decide)) (fun _ hk => hk.2) (.slice Ao38 y616.length co38)) (fun _ hk => hk.2) (.int .i64 t608)) (fun _ hk => hk.2) (.string t609)) (fun _ hk => hk.1)⟩
         have n2_ : Aside0 ((((w36.setCell ⟨gb607, 0, none⟩ (.slice Ao38 y616.length co38)).setCell ⟨gb607, 1, none⟩ (.int .i64 t608)).setCell ⟨gb607, 2, none⟩ (.string t609)).heap[gb601]? = some (.cells #[.slice none 0 0, .int .i64 x602001_1, .string x602002_1] 74 (0, 0))) := ⟨by (with_reducible repeat (first | refine blk_drewN ?_ _ | refine blk_drew ?_ | refine blk_alloc ?_ _)); refine blk_far ?_ NB601_607.out _; (with_reducible repeat (first | refine blk_drewN ?_ _ | refine blk_drew ?_ | refine blk_alloc ?_ _)); refine blk_far ?_ NB601_607.out _; (with_reducible repeat (first | refine blk_drewN ?_ _ | refine blk_drew ?_ | refine blk_alloc ?_ _)); refine blk_far ?_ NB601_607.out _; (with_reducible repeat (first | refine blk_drewN ?_ _ | refine blk_drew ?_ | refine blk_alloc ?_ _)); exact BK601.out⟩
         have n3_ : Aside0 ((((w36.setCell ⟨gb607, 0, none⟩ (.slice Ao38 y616.length co38)).setCell ⟨gb607, 1, none⟩ (.int .i64 t608)).setCell ⟨gb607, 2, none⟩ (.string t609)).heap[gb607]? = some (.cells #[.slice Ao38 y616.length co38, .int .i64 t608, .string t609] 74 (0, 0))) := ⟨by (with_reducible repeat (first | refine blk_drewN ?_ _ | refine blk_drew ?_ | refine blk_alloc ?_ _)); refine blk_put (cs := #[.slice Ao38 y616.length co38, .int .i64 t608, .string x608002_1]) ?_ 2 _ rfl; (with_reducible repeat (first | refine blk_drewN ?_ _ | refine blk_drew ?_ | refine blk_alloc ?_ _)); refine blk_put (cs := #[.slice Ao38 y616.length co38, .int .i64 x608001_1, .string x608002_1]) ?_ 1 _ rfl; (with_reducible repeat (first | refine blk_drewN ?_ _ | refine blk_drew ?_ | refine blk_alloc ?_ _)); refine blk_put (cs := #[u608000, .int .i64 x608001_1, .string x608002_1]) ?_ 0 _ rfl; (with_reducible repeat (first | refine blk_drewN ?_ _ | refine blk_drew ?_ | refine blk_alloc ?_ _)); exact BK607.out⟩
         have n4_ : Aside0 ((((w36.setCell ⟨gb607, 0, none⟩ (.slice Ao38 y616.length co38)).setCell ⟨gb607, 1, none⟩ (.int .i64 t608)).setCell ⟨gb607, 2, none⟩ (.string t609)).heap[gb615]? = some (.cells #[.int .i64 t608, .string t609] 31 (0, 0))) := ⟨by (with_reducible repeat (first | refine blk_drewN ?_ _ | refine blk_drew ?_ | refine blk_alloc ?_ _)); refine blk_far ?_ NB615_607.out _; (with_reducible repeat (first | refine blk_drewN ?_ _ | refine blk_drew ?_ | refine blk_alloc ?_ _)); refine blk_far ?_ NB615_607.out _; (with_reducible repeat (first | refine blk_drewN ?_ _ | refine blk_drew ?_ | refine blk_alloc ?_ _)); refine blk_far ?_ NB615_607.out _; (with_reducible repeat (first | refine blk_drewN ?_ _ | refine blk_drew ?_ | refine blk_alloc ?_ _)); exact BK615.out⟩
         have n5_ : Aside0 (Below w.heap.size w (((w36.setCell ⟨gb607, 0, none⟩ (.slice Ao38 y616.length co38)).setCell ⟨gb607, 1, none⟩ (.int .i64 t608)).setCell ⟨gb607, 2, none⟩ (.string t609))) := ⟨by repeat (first | (with_reducible first | exact HB.out | apply below_alloc | apply pw_below_drewN | apply below_drew1 | refine below_set ?_ GE601.out | refine below_set ?_ GE607.out | refine below_set ?_ GE615.out) | exact HB.out)⟩
         (try clear HO_7)
         (try clear HO618)
         (try clear BK601)
         (try clear BK607)
         (try clear BK615)
         (try clear HB)
         generalize (((w36.setCell ⟨gb607, 0, none⟩ (.slice Ao38 y616.length co38)).setCell ⟨gb607, 1, none⟩ (.int .i64 t608)).setCell ⟨gb607, 2, none⟩ (.string t609)) = w42 at n0_ n1_ n2_ n3_ n4_ n5_ ⊢
         have HO_7 := n0_
         have HO618 := n1_
         have BK601 := n2_
         have BK607 := n3_
         have BK615 := n4_
         have HB := n5_
         clear n0_ n1_ n2_ n3_ n4_ n5_
         have n0_ := Aside0.mk (Kd.R_drew HO_7.out)
         have n1_ := Aside0.mk (Kd.R_drew HO618.out)
         have n2_ := Aside0.mk (blk_drew BK601.out)
         have n3_ := Aside0.mk (blk_drew BK607.out)
         have n4_ := Aside0.mk (blk_drew BK615.out)
         have n5_ := Aside0.mk (below_drew1 HB.out)
         clear HO_7
         clear HO618
         clear BK601
         clear BK607
         clear BK615
         clear HB
         have HO_7 := n0_
         have HO618 := n1_
         have BK601 := n2_
         have BK607 := n3_
         have BK615 := n4_
         have HB := n5_
         clear n0_ n1_ n2_ n3_ n4_ n5_
         refine start_ (n := 5) (S := fun w' => w'.cell? ⟨gb615, 0, none⟩ = some (.int .i64 t608) ∧ w'.cell? ⟨gb615, 1, none⟩ = some (.string t609) ∧ w'.cell? ⟨gb607, 0, none⟩ = some (.slice Ao38 y616.length co38) ∧ w'.cell? ⟨gb607, 1, none⟩ = some (.int .i64 t608) ∧ w'.cell? ⟨gb607, 2, none⟩ = some (.string t609)) (ds := []) (lz_ 5 0) (by kernel_rfl) rfl rfl ⟨(blk_cell BK615.out 0).trans rfl, (blk_cell BK615.out 1).trans rfl, (blk_cell BK607.out 0).trans rfl, (blk_cell BK607.out 1).trans rfl, (blk_cell BK607.out 2).trans rfl⟩ (fun hHeld => ?_)
         generalize w42.drew = w43 at HO_7 HO618 BK601 BK607 BK615 HB hHeld ⊢
         refine pk_ 1 44 2 ?_
         refine tk_ 0 43 3 ?_
         refine tk_ 2 45 7 ?_
         refine one_ (i := 3) (N := some 46) (lz_ 5 15) rfl rfl (by kernel_rfl) (by decide) (fun K hK => ?_)
         refine goes_ Try.func118 (by kernel_rfl) rfl #[.slice Ao38 y616.length co38] (by rfl) rfl rfl (by (try simp only [List.map_toArray, List.map_cons, List.map_nil]); first | done | rfl | (simp only [List.length_drop, List.length_take]; rfl)) ?_
         with_reducible refine (spec_HeadOf.calls kj10 _ _ y616 t619 t620 _ ?side1 ?side2 A31.out).mono ?_
         (case side1 => exact cr_ (Kd.R_reads' HO618.out).2.2)
         (case side2 => exact (Kd.R_reads' HO618.out).2.1)
         rintro e w44 ⟨rfl, hb⟩
         refine ⟨_, rfl, ?_⟩
         have n0_ := Aside0.mk (Kd.R_below (kr_ HO_7.out) hb)
         have n1_ := Aside0.mk (Kd.R_below (kr_ HO618.out) hb)
         have n2_ := Aside0.mk (blk_below (kb_ BK601.out) hb)
         have n3_ := Aside0.mk (blk_below (kb_ BK607.out) hb)
         have n4_ := Aside0.mk (blk_below (kb_ BK615.out) hb)
         have n5_ := Aside0.mk (below_step (bs3_ HB GE601.out GE607.out GE615.out) hb)
         clear HO_7
         clear HO618
         clear BK601
         clear BK607
         clear BK615
         clear HB
         have HO_7 := n0_
         have HO618 := n1_
         have BK601 := n2_
         have BK607 := n3_
         have BK615 := n4_
         have HB := n5_
         clear n0_ n1_ n2_ n3_ n4_ n5_
         (try clear hb)
         (try clear hb2)
         (try clear hk)
         (try clear hi)
         refine hK.out _ _ ⟨(blk_cell BK615.out 0).trans rfl, (blk_cell BK615.out 1).trans rfl, (blk_cell BK607.out 0).trans rfl, (blk_cell BK607.out 1).trans rfl, (blk_cell BK607.out 2).trans rfl⟩ (fun hHeld => ?_)
         clear hK K
         refine norm_ (a' := ?_) ?_ ?_
         rotate_left
         ·show Act.put _ (some 46) _ = _
          simp only [Act.put, List.setIfInBounds_toArray, List.set_cons_zero, List.set_cons_succ, i64_w, i32_w]
          rfl
         refine pk_ 4 47 31 ?_
         refine done_ (by kernel_rfl) ?_
         have hcz45_0 := bc0_ BK607.out
         have hcz45_1 := bc1_ BK607.out
         have hcz45_2 := bc2_ BK607.out
         have hfz45_0 := blk_frozen BK607.out 0
         have hfz45_1 := blk_frozen BK607.out 1
         have hfz45_2 := blk_frozen BK607.out 2
         have hcz46_0 := bc0_ BK601.out
         have hcz46_1 := bc1_ BK601.out
         have hcz46_2 := bc2_ BK601.out
         have hfz46_0 := blk_frozen BK601.out 0
         have hfz46_1 := blk_frozen BK601.out 1
         have hfz46_2 := blk_frozen BK601.out 2
         try go_wp2
         refine bodyPost_ret (results_ct rfl _ _ gb601 74 #[.slice Ao38 y616.length co38, .int .i64 t608, .string t609] (0, 0) _ rfl (by (with_reducible repeat (first | refine blk_drewN ?_ _ | refine blk_drew ?_ | refine blk_alloc ?_ _)); refine blk_put (cs := #[.slice Ao38 y616.length co38, .int .i64 t608, .string x602002_1]) ?_ 2 _ rfl; (with_reducible repeat (first | refine blk_drewN ?_ _ | refine blk_drew ?_ | refine blk_alloc ?_ _)); refine blk_put (cs := #[.slice Ao38 y616.length co38, .int .i64 x602001_1, .string x602002_1]) ?_ 1 _ rfl; (with_reducible repeat (first | refine blk_drewN ?_ _ | refine blk_drew ?_ | refine blk_alloc ?_ _)); refine blk_put (cs := #[.slice none 0 0, .int .i64 x602001_1, .string x602002_1]) ?_ 0 _ rfl; (with_reducible repeat (first | refine blk_drewN ?_ _ | refine blk_drew ?_ | refine blk_alloc ?_ _)); exact BK601.out) Try.underlying74 rfl (by kernel_rfl)) rfl ?_
         exact ⟨_, e2_, by (with_reducible repeat (first | apply Kd.R_alloc | apply Kd.R_drewN | apply Kd.R_drew)); exact Kd.R_mono (Kd.R_far (p := ⟨gb601, 2, none⟩) (Kd.R_far (p := ⟨gb601, 1, none⟩) (Kd.R_far (p := ⟨gb601, 0, none⟩) (Kd.R_types HO618.out BK601.out (by decide)) (fun _ hk => hk.2) (.slice Ao38 y616.length co38)) (fun _ hk => hk.2) (.int .i64 t608)) (fun _ hk => hk.2) (.string t609)) (fun _ hk => trivial), by repeat (first | (with_reducible first | exact HB.out | apply below_alloc | apply pw_below_drewN | apply below_drew1 | refine below_set ?_ GE601.out | refine below_set ?_ GE607.out | refine below_set ?_ GE615.out) | exact HB.out)⟩
        ·rw [if_neg c32] at H
         have c32b0 : (!(t608 == t619) || (!(t609.toList == t620.toList))) = false := by simpa using c32
         clear c32
         have H' := Aside0.mk H
         clear H
         have hnb47 := NB607_601.out
         have hnc47 := NB601_607.out
         have hnb48 := NB607_615.out
         have hnc48 := NB615_607.out
         have hcz49_0 := bc0_ BK607.out
         have hcz49_1 := bc1_ BK607.out
         have hcz49_2 := bc2_ BK607.out
         have hfz49_0 := blk_frozen BK607.out 0
         have hfz49_1 := blk_frozen BK607.out 1
         have hfz49_2 := blk_frozen BK607.out 2
         obtain ⟨Ao51, co51, eo51⟩ := Kd.R_slice HO_7.out
         subst eo51
         try go_wp2_with (first | ((with_reducible refine gate_builtin (b := .append) (xs := #[.tmp 36, .tmp 37]) rfl ?_); (try (refine gate_guard (by rfl) ?_; dsimp only)); at_builtin; refine Kd.R_append_rows Kd.string (w0 := w) w.heap.size rfl (.tmp 36) (.tmp 37) 25 9 (.string ⟨#[]⟩) 16 rfl Try.underlying25 info9 rfl (by decide) (by omega) u608000 x608000_1 t610 _ _ _ (fun k_ => some k_ ≠ (.slice Ao51 t610.length co51 : Value).ownBlock) (fun _ => False) rfl rfl ?aO ?aR (fun _ _ h => h) (fun _ h => h.elim) ?aF ?aB ?aS ?aL ?_; (case aR => repeat (first | exact (Kd.R_reads' HO_7.out).2.2 | (with_reducible refine Kd.C_alloc ?_ _) | (with_reducible refine Kd.C_drewN ?_ _) | (with_reducible refine Kd.C_drew ?_))); (case aB => exact (bs3_ HB GE601.out GE607.out GE615.out)); (case aF => exact (fun k_ hk => Kd.fresh' (Kd.R_lt (kr_ HO_7.out)) k_ hk)); (case aO => exact (kr_ HO_608000.out)); (case aS => exact (below_size (bs3_ HB GE601.out GE607.out GE615.out))); (case aL => have := LMc30.out; omega); intro v617 w50 ho hb hg hat; rw [← Ny616.out] at ho; replace HO_7 := Aside0.mk (Kd.R_after (ok := (fun _ => True)) (kr_ (Kd.R_mono HO_7.out (fun _ hk => ⟨trivial, hk⟩))) hg hat); replace BK601 := Aside0.mk (blk_grown (kb_ BK601.out) hg (Kd.R_ne HO_608000.out BK601.out (by decide))); replace BK607 := Aside0.mk (blk_grown (kb_ BK607.out) hg (Kd.R_ne HO_608000.out BK607.out (by decide))); replace BK615 := Aside0.mk (blk_grown (kb_ BK615.out) hg (Kd.R_ne HO_608000.out BK615.out (by decide))); replace HB := Aside0.mk (hb); have HO618 := Aside0.mk (ho); clear HO_608000; clear ho hb hg hat; obtain ⟨Ao52, co52, eo52⟩ := Kd.R_slice HO618.out; subst eo52; have hcz53_0 := bc0_ BK607.out; have hcz53_1 := bc1_ BK607.out; have hcz53_2 := bc2_ BK607.out; have hfz53_0 := blk_frozen BK607.out 0; have hfz53_1 := blk_frozen BK607.out 1; have hfz53_2 := blk_frozen BK607.out 2; have hnb54 := NB615_601.out; have hnc54 := NB601_615.out; have hcz55_0 := bc0_ BK615.out; have hcz55_1 := bc1_ BK615.out; have hfz55_0 := blk_frozen BK615.out 0; have hfz55_1 := blk_frozen BK615.out 1))
         have n0_ : Aside0 (Kd.R Kd.string 9 (((w50.setCell ⟨gb607, 0, none⟩ (.slice Ao52 y616.length co52)).setCell ⟨gb607, 1, none⟩ (.int .i64 t608)).setCell ⟨gb607, 2, none⟩ (.string t609)) w.heap.size (fun k_ => some k_ ≠ (.slice Ao52 y616.length co52 : Value).ownBlock) (.slice Ao51 t610.length co51) t610) := ⟨by (with_reducible repeat (first | apply Kd.R_alloc | apply Kd.R_drewN | apply Kd.R_drew)); exact Kd.R_mono (Kd.R_far (p := ⟨gb607, 2, none⟩) (Kd.R_far (p := ⟨gb607, 1, none⟩) (Kd.R_far (p := ⟨gb607, 0, none⟩) (Kd.R_types HO_7.out BK607.out (by decide)) (fun _ hk => hk.2) (.slice Ao52 y616.length co52)) (fun _ hk => hk.2) (.int .i64 t608)) (fun _ hk => hk.2) (.string t609)) (fun _ hk => hk.1.2)⟩
         have n1_ : Aside0 (Kd.R Kd.string 9 (((w50.setCell ⟨gb607, 0, none⟩ (.slice Ao52 y616.length co52)).setCell ⟨gb607, 1, none⟩ (.int .i64 t608)).setCell ⟨gb607, 2, none⟩ (.string t609)) w.heap.size (fun k_ => some k_ ≠ (.slice Ao51 t610.length co51 : Value).ownBlock) (.slice Ao52 y616.length co52) y616) := ⟨by (with_reducible repeat (first | apply Kd.R_alloc | apply Kd.R_drewN | apply Kd.R_drew)); exact Kd.R_mono (Kd.R_far (p := ⟨gb607, 2, none⟩) (Kd.R_far (p := ⟨gb607, 1, none⟩) (Kd.R_far (p := ⟨gb607, 0, none⟩) (Kd.R_types HO618.out BK607.out (by decide)) (fun _ hk => hk.2) (.slice Ao52 y616.length co52)) (fun _ hk => hk.2) (.int .i64 t608)) (fun _ hk => hk.2) (.string t609)) (fun _ hk => hk.1)⟩
         have n2_ : Aside0 ((((w50.setCell ⟨gb607, 0, none⟩ (.slice Ao52 y616.length co52)).setCell ⟨gb607, 1, none⟩ (.int .i64 t608)).setCell ⟨gb607, 2, none⟩ (.string t609)).heap[gb601]? = some (.cells #[.slice none 0 0, .int .i64 x602001_1, .string x602002_1] 74 (0, 0))) := ⟨by (with_reducible repeat (first | refine blk_drewN ?_ _ | refine blk_drew ?_ | refine blk_alloc ?_ _)); refine blk_far ?_ NB601_607.out _; (with_reducible repeat (first | refine blk_drewN ?_ _ | refine blk_drew ?_ | refine blk_alloc ?_ _)); refine blk_far ?_ NB601_607.out _; (with_reducible repeat (first | refine blk_drewN ?_ _ | refine blk_drew ?_ | refine blk_alloc ?_ _)); refine blk_far ?_ NB601_607.out _; (with_reducible repeat (first | refine blk_drewN ?_ _ | refine blk_drew ?_ | refine blk_alloc ?_ _)); exact BK601.out⟩
         have n3_ : Aside0 ((((w50.setCell ⟨gb607, 0, none⟩ (.slice Ao52 y616.length co52)).setCell ⟨gb607, 1, none⟩ (.int .i64 t608)).setCell ⟨gb607, 2, none⟩ (.string t609)).heap[gb607]? = some (.cells #[.slice Ao52 y616.length co52, .int .i64 t608, .string t609] 74 (0, 0))) := ⟨by (with_reducible repeat (first | refine blk_drewN ?_ _ | refine blk_drew ?_ | refine blk_alloc ?_ _)); refine blk_put (cs := #[.slice Ao52 y616.length co52, .int .i64 t608, .string x608002_1]) ?_ 2 _ rfl; (with_reducible repeat (first | refine blk_drewN ?_ _ | refine blk_drew ?_ | refine blk_alloc ?_ _)); refine blk_put (cs := #[.slice Ao52 y616.length co52, .int .i64 x608001_1, .string x608002_1]) ?_ 1 _ rfl; (with_reducible repeat (first | refine blk_drewN ?_ _ | refine blk_drew ?_ | refine blk_alloc ?_ _)); refine blk_put (cs := #[u608000, .int .i64 x608001_1, .string x608002_1]) ?_ 0 _ rfl; (with_reducible repeat (first | refine blk_drewN ?_ _ | refine blk_drew ?_ | refine blk_alloc ?_ _)); exact BK607.out⟩
         have n4_ : Aside0 ((((w50.setCell ⟨gb607, 0, none⟩ (.slice Ao52 y616.length co52)).setCell ⟨gb607, 1, none⟩ (.int .i64 t608)).setCell ⟨gb607, 2, none⟩ (.string t609)).heap[gb615]? = some (.cells #[.int .i64 t608, .string t609] 31 (0, 0))) := ⟨by (with_reducible repeat (first | refine blk_drewN ?_ _ | refine blk_drew ?_ | refine blk_alloc ?_ _)); refine blk_far ?_ NB615_607.out _; (with_reducible repeat (first | refine blk_drewN ?_ _ | refine blk_drew ?_ | refine blk_alloc ?_ _)); refine blk_far ?_ NB615_607.out _; (with_reducible repeat (first | refine blk_drewN ?_ _ | refine blk_drew ?_ | refine blk_alloc ?_ _)); refine blk_far ?_ NB615_607.out _; (with_reducible repeat (first | refine blk_drewN ?_ _ | refine blk_drew ?_ | refine blk_alloc ?_ _)); exact BK615.out⟩
         have n5_ : Aside0 (Below w.heap.size w (((w50.setCell ⟨gb607, 0, none⟩ (.slice Ao52 y616.length co52)).setCell ⟨gb607, 1, none⟩ (.int .i64 t608)).setCell ⟨gb607, 2, none⟩ (.string t609))) := ⟨by repeat (first | (with_reducible first | exact HB.out | apply below_alloc | apply pw_below_drewN | apply below_drew1 | refine below_set ?_ GE601.out | refine below_set ?_ GE607.out | refine below_set ?_ GE615.out) | exact HB.out)⟩
         (try clear HO_7)
         (try clear HO618)
         (try clear BK601)
         (try clear BK607)
         (try clear BK615)
         (try clear HB)
         generalize (((w50.setCell ⟨gb607, 0, none⟩ (.slice Ao52 y616.length co52)).setCell ⟨gb607, 1, none⟩ (.int .i64 t608)).setCell ⟨gb607, 2, none⟩ (.string t609)) = w56 at n0_ n1_ n2_ n3_ n4_ n5_ ⊢
         have HO_7 := n0_
         have HO618 := n1_
         have BK601 := n2_
         have BK607 := n3_
         have BK615 := n4_
         have HB := n5_
         clear n0_ n1_ n2_ n3_ n4_ n5_
         have n0_ := Aside0.mk (Kd.R_drew HO_7.out)
         have n1_ := Aside0.mk (Kd.R_drew HO618.out)
         have n2_ := Aside0.mk (blk_drew BK601.out)
         have n3_ := Aside0.mk (blk_drew BK607.out)
         have n4_ := Aside0.mk (blk_drew BK615.out)
         have n5_ := Aside0.mk (below_drew1 HB.out)
         clear HO_7
         clear HO618
         clear BK601
         clear BK607
         clear BK615
         clear HB
         have HO_7 := n0_
         have HO618 := n1_
         have BK601 := n2_
         have BK607 := n3_
         have BK615 := n4_
         have HB := n5_
         clear n0_ n1_ n2_ n3_ n4_ n5_
         refine start_ (n := 5) (S := fun w' => w'.cell? ⟨gb615, 0, none⟩ = some (.int .i64 t608) ∧ w'.cell? ⟨gb615, 1, none⟩ = some (.string t609) ∧ w'.cell? ⟨gb607, 0, none⟩ = some (.slice Ao52 y616.length co52) ∧ w'.cell? ⟨gb607, 1, none⟩ = some (.int .i64 t608) ∧ w'.cell? ⟨gb607, 2, none⟩ = some (.string t609)) (ds := []) (lz_ 5 0) (by kernel_rfl) rfl rfl ⟨(blk_cell BK615.out 0).trans rfl, (blk_cell BK615.out 1).trans rfl, (blk_cell BK607.out 0).trans rfl, (blk_cell BK607.out 1).trans rfl, (blk_cell BK607.out 2).trans rfl⟩ (fun hHeld => ?_)
         generalize w56.drew = w57 at HO_7 HO618 BK601 BK607 BK615 HB hHeld ⊢
         refine pk_ 1 44 2 ?_
         refine tk_ 0 43 3 ?_
         refine tk_ 2 45 7 ?_
         refine one_ (i := 3) (N := some 46) (lz_ 5 15) rfl rfl (by kernel_rfl) (by decide) (fun K hK => ?_)
         refine goes_ Try.func118 (by kernel_rfl) rfl #[.slice Ao52 y616.length co52] (by rfl) rfl rfl (by (try simp only [List.map_toArray, List.map_cons, List.map_nil]); first | done | rfl | (simp only [List.length_drop, List.length_take]; rfl)) ?_
         with_reducible refine (spec_HeadOf.calls kj10 _ _ y616 t619 t620 _ ?side1 ?side2 A31.out).mono ?_
         (case side1 => exact cr_ (Kd.R_reads' HO618.out).2.2)
         (case side2 => exact (Kd.R_reads' HO618.out).2.1)
         rintro e w58 ⟨rfl, hb⟩
         refine ⟨_, rfl, ?_⟩
         have n0_ := Aside0.mk (Kd.R_below (kr_ HO_7.out) hb)
         have n1_ := Aside0.mk (Kd.R_below (kr_ HO618.out) hb)
         have n2_ := Aside0.mk (blk_below (kb_ BK601.out) hb)
         have n3_ := Aside0.mk (blk_below (kb_ BK607.out) hb)
         have n4_ := Aside0.mk (blk_below (kb_ BK615.out) hb)
         have n5_ := Aside0.mk (below_step (bs3_ HB GE601.out GE607.out GE615.out) hb)
         clear HO_7
         clear HO618
         clear BK601
         clear BK607
         clear BK615
         clear HB
         have HO_7 := n0_
         have HO618 := n1_
         have BK601 := n2_
         have BK607 := n3_
         have BK615 := n4_
         have HB := n5_
         clear n0_ n1_ n2_ n3_ n4_ n5_
         (try clear hb)
         (try clear hb2)
         (try clear hk)
         (try clear hi)
         refine hK.out _ _ ⟨(blk_cell BK615.out 0).trans rfl, (blk_cell BK615.out 1).trans rfl, (blk_cell BK607.out 0).trans rfl, (blk_cell BK607.out 1).trans rfl, (blk_cell BK607.out 2).trans rfl⟩ (fun hHeld => ?_)
         clear hK K
         refine norm_ (a' := ?_) ?_ ?_
         rotate_left
         ·show Act.put _ (some 46) _ = _
          simp only [Act.put, List.setIfInBounds_toArray, List.set_cons_zero, List.set_cons_succ, i64_w, i32_w]
          rfl
         refine pk_ 4 47 31 ?_
         refine done_ (by kernel_rfl) ?_
         try go_wp2
         go_roundg kj10
         case measure => have := HK1.out; have := HJ10.out; omega
         case rel => exact ⟨(t613), (x602001_1), (x602002_1), (y616), (t608), (t609), (.slice Ao52 y616.length co52), e1_, H', ⟨by have := HK1.out; have := HJ10.out; omega⟩, ⟨by (with_reducible repeat (first | apply Kd.R_alloc | apply Kd.R_drewN | apply Kd.R_drew)); exact Kd.R_mono HO618.out (fun _ hk => trivial)⟩, ⟨by (with_reducible repeat (first | refine blk_drewN ?_ _ | refine blk_drew ?_ | refine blk_alloc ?_ _)); exact BK601.out⟩, ⟨by (with_reducible repeat (first | refine blk_drewN ?_ _ | refine blk_drew ?_ | refine blk_alloc ?_ _)); exact BK607.out⟩, ⟨by repeat (first | (with_reducible first | exact HB.out | apply below_alloc | apply pw_below_drewN | apply below_drew1 | refine below_set ?_ GE601.out | refine below_set ?_ GE607.out | refine below_set ?_ GE615.out) | exact HB.out)⟩⟩
       ·rw [if_neg c30] at H
        exact absurd H (by simp)
   ·rw [if_neg c9] at H
    have c9b0 := decide_eq_false c9
    clear c9
    simp only [Option.some.injEq, Prod.mk.injEq] at H
    obtain ⟨rfl, rfl, rfl, rfl⟩ := H
    have hnb59 := NB607_601.out
    have hnc59 := NB601_607.out
    have hcz60_0 := bc0_ BK607.out
    have hcz60_1 := bc1_ BK607.out
    have hcz60_2 := bc2_ BK607.out
    have hfz60_0 := blk_frozen BK607.out 0
    have hfz60_1 := blk_frozen BK607.out 1
    have hfz60_2 := blk_frozen BK607.out 2
    obtain ⟨Ao61, co61, eo61⟩ := Kd.R_slice HO_608000.out
    subst eo61
    have hcz62_0 := bc0_ BK601.out
    have hcz62_1 := bc1_ BK601.out
    have hcz62_2 := bc2_ BK601.out
    have hfz62_0 := blk_frozen BK601.out 0
    have hfz62_1 := blk_frozen BK601.out 1
    have hfz62_2 := blk_frozen BK601.out 2
    go_wp2
    refine bodyPost_ret (results_ct rfl _ _ gb601 74 #[.slice Ao61 x608000_1.length co61, .int .i64 x608001_1, .string x608002_1] (0, 0) _ rfl (by (with_reducible repeat (first | refine blk_drewN ?_ _ | refine blk_drew ?_ | refine blk_alloc ?_ _)); refine blk_put (cs := #[.slice Ao61 x608000_1.length co61, .int .i64 x608001_1, .string x602002_1]) ?_ 2 _ rfl; (with_reducible repeat (first | refine blk_drewN ?_ _ | refine blk_drew ?_ | refine blk_alloc ?_ _)); refine blk_put (cs := #[.slice Ao61 x608000_1.length co61, .int .i64 x602001_1, .string x602002_1]) ?_ 1 _ rfl; (with_reducible repeat (first | refine blk_drewN ?_ _ | refine blk_drew ?_ | refine blk_alloc ?_ _)); refine blk_put (cs := #[.slice none 0 0, .int .i64 x602001_1, .string x602002_1]) ?_ 0 _ rfl; (with_reducible repeat (first | refine blk_drewN ?_ _ | refine blk_drew ?_ | refine blk_alloc ?_ _)); exact BK601.out) Try.underlying74 rfl (by kernel_rfl)) rfl ?_
    exact ⟨_, e2_, by (with_reducible repeat (first | apply Kd.R_alloc | apply Kd.R_drewN | apply Kd.R_drew)); exact Kd.R_mono (Kd.R_far (p := ⟨gb601, 2, none⟩) (Kd.R_far (p := ⟨gb601, 1, none⟩) (Kd.R_far (p := ⟨gb601, 0, none⟩) (Kd.R_types HO_608000.out BK601.out (by decide)) (fun _ hk => hk.2) (.slice Ao61 x608000_1.length co61)) (fun _ hk => hk.2) (.int .i64 x608001_1)) (fun _ hk => hk.2) (.string x608002_1)) (fun _ hk => trivial), by repeat (first | (with_reducible first | exact HB.out | apply below_alloc | apply pw_below_drewN | apply below_drew1 | refine below_set ?_ GE601.out | refine below_set ?_ GE607.out) | exact HB.out)⟩
end Go.Proofs.Ytcogimnpffnanaa.Q
end
section
namespace Go.Proofs.Ytcogimnpffnanaa.Q
open Go.RowKit Go.Proofs.YtcogimnpffnanaaW.PrintWords Go.Proofs.YtcogimnpffnanaaW.PrintLast Go.Proofs.YtcogimnpffnanaaW.PrintMore
attribute [local go_sem] max2_int min2_int max_two min_two max_three min_three max_four min_four   -- for this text's walks alone
set_option linter.unusedVariables false
set_option linter.unusedSimpArgs false
def spec_StoreOk.j0 : Nat → Bool → List ByteArray → Int → ByteArray → List Int → Int → Option (Bool)
 | 0, _, _, _, _, _, _ => none
 | k + 1, x23, x602000, x602001, x602002, x602003, x602004 => if x23 = true then (some false) else ((spec_l12Replay.f k x602003).bind fun bt604 => (if bt604.2.2.2 = true then ((spec_l8Same.f k bt604.1 x602000).bind fun t611 => (some t611)) else (some false)))
def spec_StoreOk.f (k : Nat) (l0_0 : List ByteArray) (a0_1 : Int) (a0_2 : ByteArray) (l0_3 : List Int) (a0_4 : Int) : Option (Bool) := (spec_LogOk.f k l0_0 a0_1 a0_2).bind fun t602 => (if t602 = true then (if (l0_3.length : Int) > 60000 then (spec_StoreOk.j0 k true l0_0 a0_1 a0_2 l0_3 a0_4) else ((spec_l1In.f a0_4 0 (l0_3.length : Int)).bind fun t603 => (spec_StoreOk.j0 k (!t603) l0_0 a0_1 a0_2 l0_3 a0_4))) else (spec_StoreOk.j0 k true l0_0 a0_1 a0_2 l0_3 a0_4))
theorem spec_StoreOk.mono_l : ∀ k, (∀ y0 y1 y2 y3 y4 y5, LeO (spec_StoreOk.j0 k y0 y1 y2 y3 y4 y5) (spec_StoreOk.j0 (k + 1) y0 y1 y2 y3 y4 y5))
 | 0 => fun _ _ _ _ _ _ r h => by simp [spec_StoreOk.j0] at h
 | k + 1 => by
  have ih0 := spec_StoreOk.mono_l k
  ·intro y0 y1 y2 y3 y4 y5
   unfold spec_StoreOk.j0
   repeat' (with_reducible first | exact LeO.refl _ | exact LeO.none _ | apply ih0 | apply spec_LogOk.mono | apply spec_l12Replay.mono | apply spec_l8Same.mono | apply LeO.ite | refine LeO.bind ?_ fun _ => ?_)
theorem spec_StoreOk.mono : ∀ a0 a1 a2 a3 a4 k, LeO (spec_StoreOk.f k a0 a1 a2 a3 a4) (spec_StoreOk.f (k + 1) a0 a1 a2 a3 a4) := by
 intro a0 a1 a2 a3 a4 k
 have ih0 := spec_StoreOk.mono_l k
 unfold spec_StoreOk.f
 repeat' (with_reducible first | exact LeO.refl _ | exact LeO.none _ | apply ih0 | apply spec_LogOk.mono | apply spec_l12Replay.mono | apply spec_l8Same.mono | apply LeO.ite | refine LeO.bind ?_ fun _ => ?_)
set_option maxHeartbeats 8000000 in
set_option maxRecDepth 100000 in
theorem spec_StoreOk.calls (k : Nat) (A0_0 : Option Addr) (c0_0 : Nat) (l0_0 : List ByteArray) (a0_1 : Int) (a0_2 : ByteArray) (A0_3 : Option Addr) (c0_3 : Nat) (l0_3 : List Int) (a0_4 : Int) (r : Bool) (w : World) (hr0_0 : Kd.C Kd.string w A0_0 l0_0.length l0_0) (hc0_0 : l0_0.length ≤ c0_0) (hr0_3 : Kd.C (Kd.int .u8) w A0_3 l0_3.length l0_3) (hc0_3 : l0_3.length ≤ c0_3) (h : spec_StoreOk.f k l0_0 a0_1 a0_2 l0_3 a0_4 = some r) :
  Calls Try.prog 88 #[.agg #[.slice A0_0 l0_0.length c0_0, .int .i64 a0_1, .string a0_2, .slice A0_3 l0_3.length c0_3, .int .i64 a0_4]] w fun e w' => e = .returned (.bool r) ∧ Below w.heap.size w w' := by
 have hu88 := Try.underlying88
 have hu74 := Try.underlying74
 have HR0_0 := Aside0.mk hr0_0
 have HC0_0 := Aside0.mk hc0_0
 clear hr0_0 hc0_0
 have HR0_3 := Aside0.mk hr0_3
 have HC0_3 := Aside0.mk hc0_3
 clear hr0_3 hc0_3
 have HB := Aside0.mk (Below.refl w.heap.size w)
 have H : ((spec_LogOk.f k l0_0 a0_1 a0_2).bind fun t602 => (if t602 = true then (if (l0_3.length : Int) > 60000 then (spec_StoreOk.j0 k true l0_0 a0_1 a0_2 l0_3 a0_4) else ((spec_l1In.f a0_4 0 (l0_3.length : Int)).bind fun t603 => (spec_StoreOk.j0 k (!t603) l0_0 a0_1 a0_2 l0_3 a0_4))) else (spec_StoreOk.j0 k true l0_0 a0_1 a0_2 l0_3 a0_4))) = some r := h
 clear h
 have HC2 := Aside0.mk H
 clear H
 go_enter Try.func88, Try.ntmps88
 go_upto_region 1 with (first | ((with_reducible refine gate_dst (N := 1) rfl ?_); (try (refine gate_guard (by rfl) ?_; dsimp only)); refine box_event ?hg (N := 1) ?hd (cs := #[.slice A0_0 l0_0.length c0_0, .int .i64 a0_1, .string a0_2, .slice A0_3 l0_3.length c0_3, .int .i64 a0_4]) (t := 88) ?hr ?_; (case hd => rfl); (case hg => rfl); (case hr => first | (go_simp; done) | (go_simp; rfl)); intro gb601 hg w3 hbox hb; have BK601 := Aside0.mk (hbox); have GW601 := Aside0.mk ((by rw [hg]; exact (below_size (bw_ HB)) : w.heap.size ≤ gb601)); have GE601 := Aside0.mk ((by rw [hg]; exact (below_size (bw_ HB)) : w.heap.size ≤ gb601)); replace HB := Aside0.mk (below_step (bw_ HB) hb); clear hb hbox hg))
 (try simp only [Act.put, List.setIfInBounds_toArray, List.set_cons_zero, List.set_cons_succ])
 go_cut [23] (fun v23 wc => ∃ (kq : Nat) (x23_1 : Bool), v23 = .bool x23_1 ∧ Aside0 (spec_StoreOk.j0 kq x23_1 l0_0 a0_1 a0_2 l0_3 a0_4 = some r) ∧ Aside0 (kq ≤ k) ∧ Aside0 (wc.heap[gb601]? = some (.cells #[(.slice A0_0 l0_0.length c0_0), .int .i64 a0_1, .string a0_2, (.slice A0_3 l0_3.length c0_3), .int .i64 a0_4] 88 (0, 0))) ∧ Aside0 (Below w.heap.size w wc))
 case first =>
  have H := HC2.out
  clear HC2
  replace H := Option.bind_eq_some_iff.mp H
  obtain ⟨t602, A40, H⟩ := H
  have A4 := Aside0.mk A40
  clear A40
  by_cases c5 : t602 = true
  ·subst c5
   rw [if_pos rfl] at H
   by_cases c6 : (l0_3.length : Int) > 60000
   ·rw [if_pos c6] at H
    have c6b0 : decide (60000 < (l0_3.length : Int)) = true := decide_eq_true c6
    have c6b1 : decide (60000 < l0_3.length) = true := decide_eq_true (by omega)
    clear c6
    (first | rw [c6b0] | (simp only [i64_w, i32_w]; rw [c6b0]) | rw [c6b1] | skip)
    have H' := Aside0.mk H
    clear H
    have hcz7_0 := bc0_ BK601.out
    have hcz7_1 := bc1_ BK601.out
    have hcz7_2 := bc2_ BK601.out
    have hcz7_3 := bc3_ BK601.out
    have hcz7_4 := bc4_ BK601.out
    have hfz7_0 := blk_frozen BK601.out 0
    have hfz7_1 := blk_frozen BK601.out 1
    have hfz7_2 := blk_frozen BK601.out 2
    have hfz7_3 := blk_frozen BK601.out 3
    have hfz7_4 := blk_frozen BK601.out 4
    go_wp2_with (first | ((with_reducible refine gk_ 129 ?_); refine gl_ 7 Try.func129 #[.agg #[.slice A0_0 l0_0.length c0_0, .int .i64 a0_1, .string a0_2]] ?_; (with_reducible refine (spec_LogOk.calls k _ _ l0_0 a0_1 a0_2 true _ ?side1 ?side2 A4.out).mono ?_); (case side1 => exact cr_ (Kd.C_below HR0_0.out HB.out)); (case side2 => exact HC0_0.out); rintro e w8 ⟨rfl, hb⟩; refine ⟨_, rfl, ?_⟩; replace BK601 := Aside0.mk (blk_below (kb_ BK601.out) hb); replace HB := Aside0.mk (below_step (bs1_ HB GE601.out) hb); clear hb; have hcz9_0 := bc0_ BK601.out; have hcz9_1 := bc1_ BK601.out; have hcz9_2 := bc2_ BK601.out; have hcz9_3 := bc3_ BK601.out; have hcz9_4 := bc4_ BK601.out; have hfz9_0 := blk_frozen BK601.out 0; have hfz9_1 := blk_frozen BK601.out 1; have hfz9_2 := blk_frozen BK601.out 2; have hfz9_3 := blk_frozen BK601.out 3; have hfz9_4 := blk_frozen BK601.out 4))
    go_meet
    case rel => exact ⟨_, (true), e1_, H', ⟨le_⟩, ⟨by (with_reducible repeat (first | refine blk_drewN ?_ _ | refine blk_drew ?_ | refine blk_alloc ?_ _)); exact BK601.out⟩, ⟨by repeat (first | (with_reducible first | exact HB.out | apply below_alloc | apply pw_below_drewN | apply below_drew1 | refine below_set ?_ GE601.out) | exact HB.out)⟩⟩
   ·rw [if_neg c6] at H
    have c6b0 : decide (60000 < (l0_3.length : Int)) = false := decide_eq_false c6
    have c6b1 : decide (60000 < l0_3.length) = false := decide_eq_false (by omega)
    clear c6
    (first | rw [c6b0] | (simp only [i64_w, i32_w]; rw [c6b0]) | rw [c6b1] | skip)
    replace H := Option.bind_eq_some_iff.mp H
    obtain ⟨t603, A100, H⟩ := H
    have A10 := Aside0.mk A100
    clear A100
    have H' := Aside0.mk H
    clear H
    have hcz11_0 := bc0_ BK601.out
    have hcz11_1 := bc1_ BK601.out
    have hcz11_2 := bc2_ BK601.out
    have hcz11_3 := bc3_ BK601.out
    have hcz11_4 := bc4_ BK601.out
    have hfz11_0 := blk_frozen BK601.out 0
    have hfz11_1 := blk_frozen BK601.out 1
    have hfz11_2 := blk_frozen BK601.out 2
    have hfz11_3 := blk_frozen BK601.out 3
    have hfz11_4 := blk_frozen BK601.out 4
    go_wp2_with (first | ((with_reducible refine gk_ 129 ?_); refine gl_ 7 Try.func129 #[.agg #[.slice A0_0 l0_0.length c0_0, .int .i64 a0_1, .string a0_2]] ?_; (with_reducible refine (spec_LogOk.calls k _ _ l0_0 a0_1 a0_2 true _ ?side1 ?side2 A4.out).mono ?_); (case side1 => exact cr_ (Kd.C_below HR0_0.out HB.out)); (case side2 => exact HC0_0.out); rintro e w12 ⟨rfl, hb⟩; refine ⟨_, rfl, ?_⟩; replace BK601 := Aside0.mk (blk_below (kb_ BK601.out) hb); replace HB := Aside0.mk (below_step (bs1_ HB GE601.out) hb); clear hb; have hcz13_0 := bc0_ BK601.out; have hcz13_1 := bc1_ BK601.out; have hcz13_2 := bc2_ BK601.out; have hcz13_3 := bc3_ BK601.out; have hcz13_4 := bc4_ BK601.out; have hfz13_0 := blk_frozen BK601.out 0; have hfz13_1 := blk_frozen BK601.out 1; have hfz13_2 := blk_frozen BK601.out 2; have hfz13_3 := blk_frozen BK601.out 3; have hfz13_4 := blk_frozen BK601.out 4) | (go_at_call 91; (with_reducible refine (spec_l1In.calls a0_4 0 (l0_3.length : Int) t603 _ A10.out).mono ?_); rintro e w' ⟨rfl, ⟨nd, rfl⟩⟩))
    go_meet
    case rel => exact ⟨_, (!t603), e1_, H', ⟨le_⟩, ⟨by (with_reducible repeat (first | refine blk_drewN ?_ _ | refine blk_drew ?_ | refine blk_alloc ?_ _)); exact BK601.out⟩, ⟨by repeat (first | (with_reducible first | exact HB.out | apply below_alloc | apply pw_below_drewN | apply below_drew1 | refine below_set ?_ GE601.out) | exact HB.out)⟩⟩
  ·replace c5 := Bool.eq_false_iff.mpr c5
   subst c5
   rw [if_neg nf_] at H
   have H' := Aside0.mk H
   clear H
   have hcz14_0 := bc0_ BK601.out
   have hcz14_1 := bc1_ BK601.out
   have hcz14_2 := bc2_ BK601.out
   have hcz14_3 := bc3_ BK601.out
   have hcz14_4 := bc4_ BK601.out
   have hfz14_0 := blk_frozen BK601.out 0
   have hfz14_1 := blk_frozen BK601.out 1
   have hfz14_2 := blk_frozen BK601.out 2
   have hfz14_3 := blk_frozen BK601.out 3
   have hfz14_4 := blk_frozen BK601.out 4
   go_wp2_with (first | ((with_reducible refine gk_ 129 ?_); refine gl_ 7 Try.func129 #[.agg #[.slice A0_0 l0_0.length c0_0, .int .i64 a0_1, .string a0_2]] ?_; (with_reducible refine (spec_LogOk.calls k _ _ l0_0 a0_1 a0_2 false _ ?side1 ?side2 A4.out).mono ?_); (case side1 => exact cr_ (Kd.C_below HR0_0.out HB.out)); (case side2 => exact HC0_0.out); rintro e w15 ⟨rfl, hb⟩; refine ⟨_, rfl, ?_⟩; replace BK601 := Aside0.mk (blk_below (kb_ BK601.out) hb); replace HB := Aside0.mk (below_step (bs1_ HB GE601.out) hb); clear hb))
   go_meet
   case rel => exact ⟨_, (true), e1_, H', ⟨le_⟩, ⟨by (with_reducible repeat (first | refine blk_drewN ?_ _ | refine blk_drew ?_ | refine blk_alloc ?_ _)); exact BK601.out⟩, ⟨by repeat (first | (with_reducible first | exact HB.out | apply below_alloc | apply pw_below_drewN | apply below_drew1 | refine below_set ?_ GE601.out) | exact HB.out)⟩⟩
 case rest =>
  clear HC2
  try clear c1
  try clear p2
  try clear c5
  try clear c6
  try clear c6b0
  try clear c6b1
  try clear c8
  try clear c12
  try clear hcz11_0
  try clear hcz11_1
  try clear hcz11_2
  try clear hcz11_3
  try clear hcz11_4
  try clear hcz13_0
  try clear hcz13_1
  try clear hcz13_2
  try clear hcz13_3
  try clear hcz13_4
  try clear hcz14_0
  try clear hcz14_1
  try clear hcz14_2
  try clear hcz14_3
  try clear hcz14_4
  try clear hcz7_0
  try clear hcz7_1
  try clear hcz7_2
  try clear hcz7_3
  try clear hcz7_4
  try clear hcz9_0
  try clear hcz9_1
  try clear hcz9_2
  try clear hcz9_3
  try clear hcz9_4
  try clear hfz11_0
  try clear hfz11_1
  try clear hfz11_2
  try clear hfz11_3
  try clear hfz11_4
  try clear hfz13_0
  try clear hfz13_1
  try clear hfz13_2
  try clear hfz13_3
  try clear hfz13_4
  try clear hfz14_0
  try clear hfz14_1
  try clear hfz14_2
  try clear hfz14_3
  try clear hfz14_4
  try clear hfz7_0
  try clear hfz7_1
  try clear hfz7_2
  try clear hfz7_3
  try clear hfz7_4
  try clear hfz9_0
  try clear hfz9_1
  try clear hfz9_2
  try clear hfz9_3
  try clear hfz9_4
  obtain ⟨kq, x23_1, rfl, HA, HJ1, BK601, HB⟩ := hcut
  cases kq with
  | zero => exact absurd HA.out (by simp [spec_StoreOk.j0])
  | succ kj1 =>
   have H := HA.out
   clear HA
   simp only [spec_StoreOk.j0] at H
   by_cases c16 : x23_1 = true
   ·subst c16
    rw [if_pos rfl] at H
    obtain rfl := Option.some.inj H
    go_wp2
    go_ret
    exact ⟨e2_, by repeat (first | (with_reducible first | exact HB.out | apply below_alloc | apply pw_below_drewN | apply below_drew1 | refine below_set ?_ GE601.out) | exact HB.out)⟩
   ·replace c16 := Bool.eq_false_iff.mpr c16
    subst c16
    rw [if_neg nf_] at H
    replace H := Option.bind_eq_some_iff.mp H
    obtain ⟨⟨t604, t607, t608, t609⟩, A170, H⟩ := H
    dsimp only at H
    have A17 := Aside0.mk A170
    clear A170
    by_cases c18 : t609 = true
    ·subst c18
     rw [if_pos rfl] at H
     replace H := Option.bind_eq_some_iff.mp H
     obtain ⟨t611, A190, H⟩ := H
     have A19 := Aside0.mk A190
     clear A190
     obtain rfl := Option.some.inj H
     have hcz20_0 := bc0_ BK601.out
     have hcz20_1 := bc1_ BK601.out
     have hcz20_2 := bc2_ BK601.out
     have hcz20_3 := bc3_ BK601.out
     have hcz20_4 := bc4_ BK601.out
     have hfz20_0 := blk_frozen BK601.out 0
     have hfz20_1 := blk_frozen BK601.out 1
     have hfz20_2 := blk_frozen BK601.out 2
     have hfz20_3 := blk_frozen BK601.out 3
     have hfz20_4 := blk_frozen BK601.out 4
     go_wp2_with (first | ((with_reducible refine gk_ 145 ?_); refine gl_ 27 Try.func145 #[.slice A0_3 l0_3.length c0_3] ?_; (with_reducible refine (spec_l12Replay.calls kj1 _ _ l0_3 t604 t607 t608 true _ ?side1 ?side2 A17.out).mono ?_); (case side1 => exact cr_ (Kd.C_below HR0_3.out HB.out)); (case side2 => exact HC0_3.out); rintro e w21 ⟨v605, rfl, ho0, hb⟩; refine ⟨_, rfl, ?_⟩; have HO606 := Aside0.mk (Kd.R_lower ho0 (below_size (bs1_ HB GE601.out))); replace BK601 := Aside0.mk (blk_below (kb_ BK601.out) hb); replace HB := Aside0.mk (below_step (bs1_ HB GE601.out) hb); clear hb ho0) | ((with_reducible refine gate_dst (N := 3) rfl ?_); (try (refine gate_guard (by rfl) ?_; dsimp only)); refine box_event ?hg (N := 3) ?hd (cs := #[.slice none 0 0, .int .i64 0, .string (⟨#[]⟩ : ByteArray)]) (t := 74) ?hr ?_; (case hd => rfl); (case hg => rfl); (case hr => first | (go_simp; done) | (go_simp; rfl)); intro gb610 hg w22 hbox hb; replace HO606 := Aside0.mk (Kd.R_below (kr_ HO606.out) hb); have BK610 := Aside0.mk (hbox); have GW610 := Aside0.mk ((by rw [hg]; exact (below_size (bs1_ HB GE601.out)) : w.heap.size ≤ gb610)); have GE610 := Aside0.mk ((by rw [hg]; exact (below_size (bs1_ HB GE601.out)) : w.heap.size ≤ gb610)); replace HB := Aside0.mk (below_step (bs1_ HB GE601.out) hb); have NB601_610 := Aside0.mk ((by rw [hg]; exact Nat.ne_of_lt (blk_lt (kb_ BK601.out)) : gb601 ≠ gb610)); have NB610_601 := Aside0.mk ((by rw [hg]; exact Nat.ne_of_gt (blk_lt (kb_ BK601.out)) : gb610 ≠ gb601)); replace BK601 := Aside0.mk (blk_below (kb_ BK601.out) hb); clear hb hbox hg; obtain ⟨Ao23, co23, eo23⟩ := Kd.R_slice HO606.out; subst eo23; have hnb24 := NB610_601.out; have hnc24 := NB601_610.out; have hcz25_0 := bc0_ BK610.out; have hcz25_1 := bc1_ BK610.out; have hcz25_2 := bc2_ BK610.out; have hfz25_0 := blk_frozen BK610.out 0; have hfz25_1 := blk_frozen BK610.out 1; have hfz25_2 := blk_frozen BK610.out 2; have hcz26_0 := bc0_ BK601.out; have hcz26_1 := bc1_ BK601.out; have hcz26_2 := bc2_ BK601.out; have hcz26_3 := bc3_ BK601.out; have hcz26_4 := bc4_ BK601.out; have hfz26_0 := blk_frozen BK601.out 0; have hfz26_1 := blk_frozen BK601.out 1; have hfz26_2 := blk_frozen BK601.out 2; have hfz26_3 := blk_frozen BK601.out 3; have hfz26_4 := blk_frozen BK601.out 4) | (go_at_call 146; (with_reducible refine (spec_l8Same.calls kj1 _ _ t604 _ _ l0_0 t611 _ ?side1 ?side2 ?side3 ?side4 A19.out).mono ?_); (case side1 => refine (Kd.R_reads' (e := 9) (base := w.heap.size) (ok := fun k_ => True) (n := t604.length) (c := co23) ?_).2.2; exact (kr_ ((Kd.R_mono (Kd.R_far (p := ⟨gb610, 2, none⟩) (Kd.R_far (p := ⟨gb610, 1, none⟩) (Kd.R_far (p := ⟨gb610, 0, none⟩) (Kd.R_types HO606.out BK610.out (by decide)) (fun _ hk => hk.2) (.slice Ao23 t604.length co23)) (fun _ hk => hk.2) (.int .i64 t607)) (fun _ hk => hk.2) (.string t608)) (fun _ h_ => h_.1))))); (case side2 => exact (Kd.R_reads' HO606.out).2.1); (case side3 => exact Kd.C_below HR0_0.out (bs2_ HB GE601.out GE610.out)); (case side4 => exact HC0_0.out); rintro e w' ⟨rfl, ⟨nd, rfl⟩⟩))
     go_ret
     exact ⟨e2_, by repeat (first | (with_reducible first | exact HB.out | apply below_alloc | apply pw_below_drewN | apply below_drew1 | refine below_set ?_ GE601.out | refine below_set ?_ GE610.out) | exact HB.out)⟩
    ·replace c18 := Bool.eq_false_iff.mpr c18
     subst c18
     rw [if_neg nf_] at H
     obtain rfl := Option.some.inj H
     have hcz27_0 := bc0_ BK601.out
     have hcz27_1 := bc1_ BK601.out
     have hcz27_2 := bc2_ BK601.out
     have hcz27_3 := bc3_ BK601.out
     have hcz27_4 := bc4_ BK601.out
     have hfz27_0 := blk_frozen BK601.out 0
     have hfz27_1 := blk_frozen BK601.out 1
     have hfz27_2 := blk_frozen BK601.out 2
     have hfz27_3 := blk_frozen BK601.out 3
     have hfz27_4 := blk_frozen BK601.out 4
     go_wp2_with (first | ((with_reducible refine gk_ 145 ?_); refine gl_ 27 Try.func145 #[.slice A0_3 l0_3.length c0_3] ?_; (with_reducible refine (spec_l12Replay.calls kj1 _ _ l0_3 t604 t607 t608 false _ ?side1 ?side2 A17.out).mono ?_); (case side1 => exact cr_ (Kd.C_below HR0_3.out HB.out)); (case side2 => exact HC0_3.out); rintro e w28 ⟨v605, rfl, ho0, hb⟩; refine ⟨_, rfl, ?_⟩; have HO606 := Aside0.mk (Kd.R_lower ho0 (below_size (bs1_ HB GE601.out))); replace BK601 := Aside0.mk (blk_below (kb_ BK601.out) hb); replace HB := Aside0.mk (below_step (bs1_ HB GE601.out) hb); clear hb ho0) | ((with_reducible refine gate_dst (N := 3) rfl ?_); (try (refine gate_guard (by rfl) ?_; dsimp only)); refine box_event ?hg (N := 3) ?hd (cs := #[.slice none 0 0, .int .i64 0, .string (⟨#[]⟩ : ByteArray)]) (t := 74) ?hr ?_; (case hd => rfl); (case hg => rfl); (case hr => first | (go_simp; done) | (go_simp; rfl)); intro gb610 hg w29 hbox hb; replace HO606 := Aside0.mk (Kd.R_below (kr_ HO606.out) hb); have BK610 := Aside0.mk (hbox); have GW610 := Aside0.mk ((by rw [hg]; exact (below_size (bs1_ HB GE601.out)) : w.heap.size ≤ gb610)); have GE610 := Aside0.mk ((by rw [hg]; exact (below_size (bs1_ HB GE601.out)) : w.heap.size ≤ gb610)); replace HB := Aside0.mk (below_step (bs1_ HB GE601.out) hb); have NB601_610 := Aside0.mk ((by rw [hg]; exact Nat.ne_of_lt (blk_lt (kb_ BK601.out)) : gb601 ≠ gb610)); have NB610_601 := Aside0.mk ((by rw [hg]; exact Nat.ne_of_gt (blk_lt (kb_ BK601.out)) : gb610 ≠ gb601)); replace BK601 := Aside0.mk (blk_below (kb_ BK601.out) hb); clear hb hbox hg; obtain ⟨Ao30, co30, eo30⟩ := Kd.R_slice HO606.out; subst eo30; have hnb31 := NB610_601.out; have hnc31 := NB601_610.out; have hcz32_0 := bc0_ BK610.out; have hcz32_1 := bc1_ BK610.out; have hcz32_2 := bc2_ BK610.out; have hfz32_0 := blk_frozen BK610.out 0; have hfz32_1 := blk_frozen BK610.out 1; have hfz32_2 := blk_frozen BK610.out 2))
     go_ret
     exact ⟨e2_, by repeat (first | (with_reducible first | exact HB.out | apply below_alloc | apply pw_below_drewN | apply below_drew1 | refine below_set ?_ GE601.out | refine below_set ?_ GE610.out) | exact HB.out)⟩
end Go.Proofs.Ytcogimnpffnanaa.Q
end
section
/- Whether a store's bytes make its log: the program's loop and the reference's answer alike. Plain. -/
namespace Go.Proofs.Ytcogimnpffnanaa.Q
open Go.RowKit Go.Proofs.Ytcogimnpffnanaa.B Go.Proofs.YtcogimnpffnanaaW.PrintWords Go.Proofs.YtcogimnpffnanaaW.PrintMore
set_option linter.unusedVariables false
set_option linter.unusedSimpArgs false
theorem log_new : Ev (fun k => spec_LogNew.f k) (([] : List ByteArray), (headOf []).1, (headOf []).2) := by
 unfold spec_LogNew.f
 exact Ev.bind (spec_HeadOf_ev [] (by simp)) (Ev.now _)
theorem ev_uniq {α : Type} {g : Nat → Option α} {r q : α} (h : Ev g r) (k : Ev g q) : r = q := by
 obtain ⟨K, h⟩ := h
 obtain ⟨M, k⟩ := k
 exact Option.some.inj ((h (max K M) (Nat.le_max_left _ _)).symm.trans (k (max K M) (Nat.le_max_right _ _)))
theorem getCommit_step (b : List Int) (hb : InB b) (hl : b.length ≤ 1048576) (a : Nat) (ha : a ≤ b.length) :
  ∃ n s t nx ok, Ev (fun q => spec_GetCommit.f q b (a : Int)) (n, s, t, nx, ok) ∧ Ev (fun q => impl_GetCommit.f q b (a : Int)) (n, s, t, nx, ok) ∧ t.length ≤ 200 ∧ (∀ x ∈ t, x.size ≤ bigB) ∧
   (ok = true → ∃ c : Nat, nx = (c : Int) ∧ a < c ∧ c ≤ b.length) ∧ (ok = false → t = []) := by
 obtain ⟨n, s, t, nx, ok, e1, ht, c1, c2⟩ := getCommitI b hb (by omega) (a : Int) (by omega) (by omega)
 obtain ⟨n', s', t', nx', ok', e2, e3, _⟩ := getCommit_both b hb (by omega) (a : Int) (by omega) (by omega)
 have h := ev_uniq e3 e1
 simp only [Prod.mk.injEq] at h
 obtain ⟨rfl, rfl, rfl, rfl, rfl⟩ := h
 refine ⟨_, _, _, _, _, e2, e1, ht, ?_, ?_, ?_⟩
 ·cases hok : ok' with
  | true =>
   obtain ⟨a', N, h1, rfl, _, _, hd, _, hle⟩ := c1 hok
   intro x hx
   have h2 := commitB_length N s' t'
   have h3 := bodyB_ge N s' t'
   have h4 := total_mem hx
   unfold bigB
   omega
  | false =>
   obtain ⟨_, _, rfl, _⟩ := c2 hok
   intro x hx
   cases hx
 ·intro hok
  obtain ⟨a', N, h1, rfl, _, _, hd, h2, hle⟩ := c1 hok
  have h3 := commitB_length N s' t'
  exact ⟨_, h2, by omega, hle⟩
 ·intro hok
  exact (c2 hok).2.2.1
theorem sizes_app {l t : List ByteArray} (h : ∀ x ∈ l, x.size ≤ bigB) (k : ∀ x ∈ t, x.size ≤ bigB) : ∀ x ∈ l ++ t, x.size ≤ bigB := fun x hx => (List.mem_append.1 hx).elim (h x) (k x)
theorem impl_many (b : List Int) (hb : InB b) (hl : b.length ≤ 1048576) (L : List ByteArray) (hL : L.length ≤ 200) (N : Int) (S : ByteArray) (U : Int) : ∀ (m a : Nat) (T : List ByteArray), b.length - a ≤ m → a ≤ b.length → 200 < T.length → T.length + 200 * (b.length - a) ≤ 1000000000 → (∀ x ∈ T, x.size ≤ bigB) →
  Ev (fun k => impl_StoreOk.l0 k T (a : Int) L N S b U) false := by
 intro m
 induction m with
 | zero =>
  intro a T h1 h2 h3 h4 h5
  refine Ev.step (fun k => by simp only [impl_StoreOk.l0]; rfl) ?_
  refine Ev.neg (by omega) (Ev.bind (impl_same_ev T L (by omega)) ?_)
  rw [decide_eq_false (fun e => by rw [e] at h3; omega)]
  exact Ev.now _
 | succ m ih =>
  intro a T h1 h2 h3 h4 h5
  refine Ev.step (fun k => by simp only [impl_StoreOk.l0]; rfl) ?_
  by_cases ha : (a : Int) < (b.length : Int)
  ·obtain ⟨n, s, t, nx, ok, e1, e2, ht, hs, c1, c2⟩ := getCommit_step b hb hl a h2
   refine Ev.pos ha (Ev.bind e2 ?_)
   simp only
   refine Ev.pos (by omega) ?_
   simp only [Option.bind_some]
   cases ok with
   | false => exact Ev.neg (by simp) (Ev.now _)
   | true =>
    obtain ⟨c, rfl, h6, h7⟩ := c1 rfl
    refine Ev.pos rfl (Ev.bind (impl_HeadOf_ev (T ++ t) (sizes_app h5 hs)) ?_)
    by_cases hh : (!(n == (headOf (T ++ t)).1) || (!(s.toList == (headOf (T ++ t)).2.toList))) = true
    ·exact Ev.pos hh (Ev.now _)
    ·refine Ev.neg hh (ih c (T ++ t) (by omega) h7 (by rw [List.length_append]; omega) (by rw [List.length_append]; omega) (sizes_app h5 hs))
  ·refine Ev.neg ha (Ev.bind (impl_same_ev T L (by omega)) ?_)
   rw [decide_eq_false (fun e => by rw [e] at h3; omega)]
   exact Ev.now _
theorem replay_both (b : List Int) (hb : InB b) (hl : b.length ≤ 1048576) (L : List ByteArray) (hL : L.length ≤ 200) (N : Int) (S : ByteArray) (U : Int) : ∀ (m a : Nat) (T : List ByteArray) (n : Int) (s : ByteArray), b.length - a ≤ m → a ≤ b.length → T.length ≤ 200 → (∀ x ∈ T, x.size ≤ bigB) →
  ∃ T' n' s' ok, Ev (fun k => spec_l12Replay.l0 k b (a : Int) T n s) (T', n', s', ok) ∧ T'.length ≤ 200 ∧ (∀ x ∈ T', x.size ≤ bigB) ∧ Ev (fun k => impl_StoreOk.l0 k T (a : Int) L N S b U) (if ok = true then decide (T' = L) else false) := by
 intro m
 induction m with
 | zero =>
  intro a T n s h1 h2 h3 h5
  refine ⟨T, n, s, true, ?_, h3, h5, ?_⟩
  ·refine Ev.step (fun k => by simp only [spec_l12Replay.l0]; rfl) ?_
   exact Ev.neg (by omega) (Ev.now _)
  ·refine Ev.step (fun k => by simp only [impl_StoreOk.l0]; rfl) ?_
   exact Ev.neg (by omega) (Ev.bind (impl_same_ev T L (by omega)) (Ev.now _))
 | succ m ih =>
  intro a T n s h1 h2 h3 h5
  by_cases ha : (a : Int) < (b.length : Int)
  ·obtain ⟨n1, s1, t, nx, ok, e1, e2, ht, hs, c1, c2⟩ := getCommit_step b hb hl a h2
   cases ok with
   | false =>
    refine ⟨T, n, s, false, ?_, h3, h5, ?_⟩
    ·refine Ev.step (fun k => by simp only [spec_l12Replay.l0]; rfl) ?_
     refine Ev.pos ha (Ev.bind e1 (Ev.neg (by simp) ?_))
     refine Ev.step (fun k => by simp only [spec_l12Replay.j1]; rfl) ?_
     exact Ev.pos trivial (Ev.now _)
    ·refine Ev.step (fun k => by simp only [impl_StoreOk.l0]; rfl) ?_
     refine Ev.pos ha (Ev.bind e2 (Ev.pos (by simp only; omega) ?_))
     simp only [Option.bind_some]
     exact Ev.neg (by simp) (Ev.now _)
   | true =>
    obtain ⟨c, rfl, h6, h7⟩ := c1 rfl
    have hw : wrap64 ((T.length : Int) + (t.length : Int)) = ((T.length + t.length : Nat) : Int) := by
     rw [w64 (by omega) (by omega)]
     omega
    have hsz := sizes_app h5 hs
    have hI : ∀ r, Ev (fun k => if (!(n1 == (headOf (T ++ t)).1) || (!(s1.toList == (headOf (T ++ t)).2.toList))) = true then some false else impl_StoreOk.l0 k (T ++ t) (c : Int) L N S b U) r → Ev (fun k => impl_StoreOk.l0 k T (a : Int) L N S b U) r := by
     intro r hr
     refine Ev.step (fun k => by simp only [impl_StoreOk.l0]; rfl) ?_
     refine Ev.pos ha (Ev.bind e2 (Ev.pos (by simp only; omega) ?_))
     simp only [Option.bind_some]
     exact Ev.pos trivial (Ev.bind (impl_HeadOf_ev (T ++ t) hsz) hr)
    by_cases hm : T.length + t.length ≤ 200
    ·have hS : ∀ r, Ev (fun k => if (!(n1 == (headOf (T ++ t)).1) || (!(s1.toList == (headOf (T ++ t)).2.toList))) = true then some (T ++ t, n1, s1, false) else spec_l12Replay.l0 k b (c : Int) (T ++ t) n1 s1) r → Ev (fun k => spec_l12Replay.l0 k b (a : Int) T n s) r := by
      intro r hr
      refine Ev.step (fun k => by simp only [spec_l12Replay.l0]; rfl) ?_
      refine Ev.pos ha (Ev.bind e1 (Ev.pos rfl ?_))
      simp only [hw]
      rw [decide_eq_false (by omega)]
      refine Ev.step (fun k => by simp only [spec_l12Replay.j1]; rfl) ?_
      refine Ev.neg (by simp) (Ev.pos (by omega) ?_)
      simp only [Option.bind_some]
      exact Ev.bind (spec_HeadOf_ev (T ++ t) hsz) hr
     have hlen : (T ++ t).length ≤ 200 := by rw [List.length_append]; exact hm
     by_cases hh : (!(n1 == (headOf (T ++ t)).1) || (!(s1.toList == (headOf (T ++ t)).2.toList))) = true
     ·exact ⟨_, _, _, false, hS _ (Ev.pos hh (Ev.now _)), hlen, hsz, hI _ (Ev.pos hh (Ev.now _))⟩
     ·obtain ⟨T', n', s', ok, f1, f2, f3, f4⟩ := ih c (T ++ t) n1 s1 (by omega) h7 hlen hsz
      exact ⟨T', n', s', ok, hS _ (Ev.neg hh f1), f2, f3, hI _ (Ev.neg hh f4)⟩
    ·refine ⟨T, n, s, false, ?_, h3, h5, ?_⟩
     ·refine Ev.step (fun k => by simp only [spec_l12Replay.l0]; rfl) ?_
      refine Ev.pos ha (Ev.bind e1 (Ev.pos rfl ?_))
      simp only [hw]
      rw [decide_eq_true (by omega)]
      refine Ev.step (fun k => by simp only [spec_l12Replay.j1]; rfl) ?_
      exact Ev.pos trivial (Ev.now _)
     ·refine hI _ ?_
      by_cases hh : (!(n1 == (headOf (T ++ t)).1) || (!(s1.toList == (headOf (T ++ t)).2.toList))) = true
      ·exact Ev.pos hh (Ev.now _)
      ·exact Ev.neg hh (impl_many b hb hl L hL N S U (b.length - c) c (T ++ t) (Nat.le_refl _) h7 (by rw [List.length_append]; omega) (by rw [List.length_append]; omega) hsz)
  ·refine ⟨T, n, s, true, ?_, h3, h5, ?_⟩
   ·refine Ev.step (fun k => by simp only [spec_l12Replay.l0]; rfl) ?_
    exact Ev.neg ha (Ev.now _)
   ·refine Ev.step (fun k => by simp only [impl_StoreOk.l0]; rfl) ?_
    exact Ev.neg ha (Ev.bind (impl_same_ev T L (by omega)) (Ev.now _))
theorem storeOk_both (l : List ByteArray) (n : Int) (s : ByteArray) (b : List Int) (u : Int) (hb : InB b) (hl : b.length ≤ 1048576) (hs : ∀ x ∈ l, x.size ≤ bigB) :
  ∃ r, Ev (fun k => spec_StoreOk.f k l n s b u) r ∧ Ev (fun k => impl_StoreOk.f k l n s b u) r := by
 have jS : Ev (fun k => spec_StoreOk.j0 k true l n s b u) false := by
  refine Ev.step (fun k => by simp only [spec_StoreOk.j0]; rfl) ?_
  exact Ev.pos trivial (Ev.now _)
 have jI : Ev (fun k => impl_StoreOk.j0 k true l n s b u) false := by
  refine Ev.step (fun k => by simp only [impl_StoreOk.j0]; rfl) ?_
  exact Ev.pos trivial (Ev.now _)
 have lS := spec_LogOk_ev l n s hs
 have lI := impl_LogOk_ev l n s hs
 unfold spec_StoreOk.f impl_StoreOk.f
 by_cases h1 : logOk l n s = true
 ·by_cases h2 : (b.length : Int) > 60000
  ·exact ⟨false, Ev.bind lS (Ev.pos h1 (Ev.pos h2 jS)), Ev.bind lI (Ev.pos h1 (Ev.pos h2 jI))⟩
  ·have hlen : l.length ≤ 200 := by
    unfold logOk at h1
    by_cases h : (l.length : Int) ≤ 200
    ·omega
    ·rw [if_neg h] at h1
     cases h1
   have iS : spec_l1In.f u 0 (b.length : Int) = some (decide (0 ≤ u) && decide (u ≤ (b.length : Int))) := by
    unfold spec_l1In.f
    by_cases h : u ≥ 0
    ·rw [if_pos h, decide_eq_true h]
     rfl
    ·rw [if_neg h, decide_eq_false h]
     rfl
   have iI : impl_inRange.f u 0 (b.length : Int) = some (decide (0 ≤ u) && decide (u ≤ (b.length : Int))) := by
    unfold impl_inRange.f
    by_cases h : u ≥ 0
    ·rw [if_pos h, decide_eq_true h]
     rfl
    ·rw [if_neg h, decide_eq_false h]
     rfl
   have fin : ∀ q : Bool, ∃ r, Ev (fun k => spec_StoreOk.j0 k (!q) l n s b u) r ∧ Ev (fun k => impl_StoreOk.j0 k (!q) l n s b u) r := by
    intro q
    cases q with
    | false => exact ⟨false, jS, jI⟩
    | true =>
     obtain ⟨T', n', s', ok, f1, f2, f3, f4⟩ := replay_both b hb hl l hlen n s u b.length 0 [] (headOf []).1 (headOf []).2 (by omega) (by omega) (by simp) (by simp)
     have fI : Ev (fun k => impl_StoreOk.j0 k (!true) l n s b u) (if ok = true then decide (T' = l) else false) := by
      refine Ev.step (fun k => by simp only [impl_StoreOk.j0]; rfl) ?_
      exact Ev.neg (by simp) f4
     have rS : Ev (fun k => spec_l12Replay.f k b) (T', n', s', ok) := by
      unfold spec_l12Replay.f
      exact Ev.bind log_new f1
     refine ⟨_, ?_, fI⟩
     refine Ev.step (fun k => by simp only [spec_StoreOk.j0]; rfl) ?_
     refine Ev.neg (by simp) (Ev.bind rS ?_)
     cases ok with
     | true => exact Ev.pos rfl (Ev.bind (spec_same_ev T' l (by omega)) (Ev.now _))
     | false => exact Ev.neg (by simp) (Ev.now _)
   obtain ⟨r, r1, r2⟩ := fin (decide (0 ≤ u) && decide (u ≤ (b.length : Int)))
   exact ⟨r, Ev.bind lS (Ev.pos h1 (Ev.neg h2 (Ev.bind (Ev.const iS) r1))), Ev.bind lI (Ev.pos h1 (Ev.neg h2 (Ev.bind (Ev.const iI) r2)))⟩
 ·exact ⟨false, Ev.bind lS (Ev.neg h1 jS), Ev.bind lI (Ev.neg h1 jI)⟩
end Go.Proofs.Ytcogimnpffnanaa.Q
end
section
/- Arguments that were read as data, opened as Lean values: numbers, bools, strings, slices of whatever kind; structs by their fields. For the rows of this seat's laws. -/
namespace Go.Proofs.Ytcogimnpffnanaa.XO
open Go.RowKit Go.Proofs.YtcogimnpffnanaaW.PrintWords Go.ChangeShapes Go.WideShapes
def Opens {α : Type} (P : Program) (d : Kd α) (t : TypeId) (G : α → Prop) : Prop :=
 ∀ {H : Type} {enc : TypeId × Value → H} {w : World} {base : Nat} {spare : Nat → Bool} {held : Bool} {fuel : Nat} {cs : List Value} {x : DataW H × List MemPlace},
  DataW.trod enc P w base spare held fuel t cs = some x → ∃ a : α, d.K w a cs ∧ G a
variable {P : Program} {t : TypeId}
theorem add_add (a : Addr) (x i : Nat) : (a.add x).add i = a.add (x + i) := by
 unfold Addr.add
 by_cases hx : x = 0
 ·subst hx
  simp
 ·by_cases hi : i = 0
  ·subst hi
   simp
  ·simp [hx, hi, Nat.add_assoc]
theorem cells_read {w : World} {base : Nat} {a : Addr} {x n : Nat} {cs : List Value} (h : w.cells? base (a.add x) n = some cs) (i : Nat) (u : Value) (hu : cs[i]? = some u) : w.cell? (a.add (x + i)) = some u := by
 unfold World.cells? at h
 split at h
 ·have hl : cs.length = n := by simpa using mapM_some_length h
  have hi : i < n := by
   rw [← hl]
   exact (List.getElem?_eq_some_iff.1 hu).1
  have hg := mapM_some_get h i i (by simp [hi])
  rw [hu, add_add] at hg
  exact hg
 ·exact absurd h (by simp)
theorem family {α : Type} {p : Nat → α → Prop} (n : Nat) (h : ∀ i, i < n → ∃ x, p i x) : ∃ xs : List α, xs.length = n ∧ ∀ i x, xs[i]? = some x → p i x := by
 induction n with
 | zero => exact ⟨[], rfl, fun i x hx => by simp at hx⟩
 | succ n ih =>
  obtain ⟨xs, h1, h2⟩ := ih (fun i hi => h i (by omega))
  obtain ⟨y, hy⟩ := h n (by omega)
  refine ⟨xs ++ [y], by simp [h1], fun i x hx => ?_⟩
  by_cases hi : i < xs.length
  ·rw [List.getElem?_append_left hi] at hx
   exact h2 i x hx
  ·rw [List.getElem?_append_right (by omega)] at hx
   have hz : i - xs.length = 0 := by
    rcases Nat.eq_zero_or_pos (i - xs.length) with hz | hz
    ·exact hz
    ·rw [List.getElem?_eq_none (by simp; omega)] at hx
     exact absurd hx (by simp)
   rw [hz] at hx
   have hxy : y = x := by simpa using hx
   have hin : i = n := by omega
   rw [← hxy, hin]
   exact hy
theorem opens_int {k : IntKind} (ht : P.underlying t = some (.int k)) : Opens P (Kd.int k) t (fun n => (Lit.int k n).wf = true) := by
 intro H enc w base spare held fuel cs x h
 obtain ⟨n, rfl, _, hw⟩ := DataW.trod_int ht h
 exact ⟨n, rfl, hw⟩
theorem opens_string (ht : P.underlying t = some .string) : Opens P Kd.string t (fun s => s.size ≤ 9223372036854775807) := by
 intro H enc w base spare held fuel cs x h
 obtain ⟨s, rfl, _, hs⟩ := DataW.trod_string ht h
 exact ⟨s, rfl, by simpa [maxLen] using hs⟩
theorem opens_slice {α : Type} {d : Kd α} {G : α → Prop} {e : TypeId} (ht : P.underlying t = some (.slice e)) (hc : P.cellsOf e = d.sz) (h0 : Opens P d e G) :
  Opens P (Kd.slice e d) t (fun l => l.length ≤ 9223372036854775807 ∧ ∀ x ∈ l, G x) := by
 intro H enc w base spare held fuel cs x h
 rcases Go.Deep.open_slice ht h with ⟨rfl, _⟩ | ⟨a, len, cap, m, n, D, Pl, rfl, _, hl, hm, hmm, _, hel⟩
 ·exact ⟨[], ⟨none, 0, rfl, Nat.le_refl _, rfl, by simp, fun hp => absurd hp (by simp)⟩, by simp, fun x hx => absurd hx (by simp)⟩
 ·have hlm : len ≤ m := by
   rw [hmm]
   split
   ·exact hl
   ·exact Nat.le_refl _
  have hall : ∀ i, i < len → ∃ x : α, (∃ cs', w.cells? base (a.add (i * P.cellsOf e)) (P.cellsOf e) = some cs' ∧ d.K w x cs') ∧ G x := by
   intro i hi
   obtain ⟨cs', h1, h2⟩ := hel i (by omega)
   obtain ⟨x, hk, hg⟩ := h0 h2
   exact ⟨x, ⟨cs', h1, hk⟩, hg⟩
  have hlen : len ≤ 9223372036854775807 := by simp only [maxLen] at hm; omega
  obtain ⟨xs, h1, h2⟩ := family len hall
  refine ⟨xs, ⟨some a, cap, by rw [h1], by omega, rfl, by omega, fun _ => ⟨a, rfl, fun j p hj => ?_⟩⟩, by omega, fun x hx => ?_⟩
  ·obtain ⟨⟨cs', hc1, hk⟩, _⟩ := h2 j p hj
   refine ⟨cs', d.K_len hk, hk, fun i u hu => ?_⟩
   rw [hc] at hc1
   exact cells_read hc1 i u hu
  ·obtain ⟨i, hi⟩ := List.getElem?_of_mem hx
   exact (h2 i x hi).2
theorem cut_cells {cs : List Value} {o n total : Nat} (hl : cs.length = total) (ho : o + n = total) : (cs.drop o).take n = cs.drop o := by
 apply List.take_of_length_le
 simp
 omega
theorem part_cells (cs : List Value) (o n : Nat) : cs.drop o = (cs.drop o).take n ++ cs.drop (o + n) := by
 rw [← List.drop_drop, List.take_append_drop]
theorem get_cells {β : Type} {xs : List β} {n : Nat} (h : xs.length = n) (i : Nat) (hi : i < n) : ∃ y, xs[i]? = some y := ⟨xs[i], List.getElem?_eq_getElem (by omega)⟩
end Go.Proofs.Ytcogimnpffnanaa.XO
end
section
/- Which Lean values the laws' arguments are opened to: each struct type by its fields. -/
namespace Go.Proofs.Ytcogimnpffnanaa.Q
open Go.RowKit Go.Proofs.Ytcogimnpffnanaa.XO Go.Proofs.YtcogimnpffnanaaW.PrintWords Go.ChangeShapes Go.WideShapes
set_option linter.unusedVariables false
set_option linter.unusedSimpArgs false
def G24 (x : S24) : Prop := (Lit.int .i64 x.f0).wf = true ∧ x.f1.size ≤ 9223372036854775807
theorem opens24 : Opens Try.prog k24 24 G24 := by
 intro H enc w base spare held fuel cs x h
 obtain ⟨xs, n, _, _, hl, hlen, hf⟩ := DataW.trod_struct Try.underlying24 h
 replace hl : cs.length = 2 := hl.trans (by kernel_rfl)
 replace hlen : xs.length = 2 := hlen
 obtain ⟨y0, e0⟩ := get_cells hlen 0 (by decide)
 have h0 : DataW.trod enc Try.prog w base spare held n 3 ((cs.drop 0).take (Try.prog.cellsOf 3)) = some y0 := (hf 0 _ rfl).trans e0
 rw [show Try.prog.cellsOf 3 = 1 from by kernel_rfl] at h0
 obtain ⟨a0, k0_, g0⟩ := (opens_int Try.underlying3) h0
 obtain ⟨y1, e1⟩ := get_cells hlen 1 (by decide)
 have h1 : DataW.trod enc Try.prog w base spare held n 9 ((cs.drop 1).take (Try.prog.cellsOf 9)) = some y1 := (hf 1 _ rfl).trans e1
 rw [show Try.prog.cellsOf 9 = 1 from by kernel_rfl] at h1
 obtain ⟨a1, k1_, g1⟩ := (opens_string Try.underlying9) h1
 exact ⟨⟨a0, a1⟩, ⟨_, _, (List.drop_zero).symm.trans (part_cells cs 0 1), k0_, (by rw [← cut_cells hl (show 1 + 1 = 2 from rfl)]; exact k1_)⟩, g0, g1⟩
def G97 (x : S97) : Prop := (x.f0.length ≤ 9223372036854775807 ∧ ∀ y0 ∈ x.f0, y0.size ≤ 9223372036854775807) ∧ G24 x.f1
theorem opens97 : Opens Try.prog k97 97 G97 := by
 intro H enc w base spare held fuel cs x h
 obtain ⟨xs, n, _, _, hl, hlen, hf⟩ := DataW.trod_struct Try.underlying97 h
 replace hl : cs.length = 3 := hl.trans (by kernel_rfl)
 replace hlen : xs.length = 2 := hlen
 obtain ⟨y0, e0⟩ := get_cells hlen 0 (by decide)
 have h0 : DataW.trod enc Try.prog w base spare held n 25 ((cs.drop 0).take (Try.prog.cellsOf 25)) = some y0 := (hf 0 _ rfl).trans e0
 rw [show Try.prog.cellsOf 25 = 1 from by kernel_rfl] at h0
 obtain ⟨a0, k0_, g0⟩ := (opens_slice Try.underlying25 (by kernel_rfl) (opens_string Try.underlying9)) h0
 obtain ⟨y1, e1⟩ := get_cells hlen 1 (by decide)
 have h1 : DataW.trod enc Try.prog w base spare held n 24 ((cs.drop 1).take (Try.prog.cellsOf 24)) = some y1 := (hf 1 _ rfl).trans e1
 rw [show Try.prog.cellsOf 24 = 2 from by kernel_rfl] at h1
 obtain ⟨a1, k1_, g1⟩ := opens24 h1
 exact ⟨⟨a0, a1⟩, ⟨_, _, (List.drop_zero).symm.trans (part_cells cs 0 1), k0_, (by rw [← cut_cells hl (show 1 + 2 = 3 from rfl)]; exact k1_)⟩, g0, g1⟩
def G111 (x : S111) : Prop := G97 x.f0 ∧ (x.f1.length ≤ 9223372036854775807 ∧ ∀ y0 ∈ x.f1, (Lit.int .u8 y0).wf = true) ∧ (Lit.int .i64 x.f2).wf = true
theorem opens111 : Opens Try.prog k111 111 G111 := by
 intro H enc w base spare held fuel cs x h
 obtain ⟨xs, n, _, _, hl, hlen, hf⟩ := DataW.trod_struct Try.underlying111 h
 replace hl : cs.length = 5 := hl.trans (by kernel_rfl)
 replace hlen : xs.length = 3 := hlen
 obtain ⟨y0, e0⟩ := get_cells hlen 0 (by decide)
 have h0 : DataW.trod enc Try.prog w base spare held n 97 ((cs.drop 0).take (Try.prog.cellsOf 97)) = some y0 := (hf 0 _ rfl).trans e0
 rw [show Try.prog.cellsOf 97 = 3 from by kernel_rfl] at h0
 obtain ⟨a0, k0_, g0⟩ := opens97 h0
 obtain ⟨y1, e1⟩ := get_cells hlen 1 (by decide)
 have h1 : DataW.trod enc Try.prog w base spare held n 29 ((cs.drop 3).take (Try.prog.cellsOf 29)) = some y1 := (hf 1 _ rfl).trans e1
 rw [show Try.prog.cellsOf 29 = 1 from by kernel_rfl] at h1
 obtain ⟨a1, k1_, g1⟩ := (opens_slice Try.underlying29 (by kernel_rfl) (opens_int Try.underlying5)) h1
 obtain ⟨y2, e2⟩ := get_cells hlen 2 (by decide)
 have h2 : DataW.trod enc Try.prog w base spare held n 3 ((cs.drop 4).take (Try.prog.cellsOf 3)) = some y2 := (hf 2 _ rfl).trans e2
 rw [show Try.prog.cellsOf 3 = 1 from by kernel_rfl] at h2
 obtain ⟨a2, k2_, g2⟩ := (opens_int Try.underlying3) h2
 exact ⟨⟨a0, a1, a2⟩, ⟨_, _, (List.drop_zero).symm.trans (part_cells cs 0 3), k0_, ⟨_, _, part_cells cs 3 1, k1_, (by rw [← cut_cells hl (show 4 + 1 = 5 from rfl)]; exact k2_)⟩⟩, g0, g1, g2⟩
end Go.Proofs.Ytcogimnpffnanaa.Q
end
