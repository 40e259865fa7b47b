-- Joined and shortened by a program of this session (wip/tools/shakecopy.py): the words of the print, texts of pp.sh and of mine.
import Derived.Test.YtcogimnpffnanaaKFnExactPutMsg1
section
/- What is put: the bytes themselves. Plain. -/
namespace Go.Proofs.Ytcogimnpffnanaa.Q
open Go.RowKit Go.Proofs.Ytcogimnpffnanaa.B Go.Proofs.YtcogimnpffnanaaW.PrintWords Go.Proofs.YtcogimnpffnanaaW.PrintMore
set_option linter.unusedVariables false
set_option linter.unusedSimpArgs false

theorem byte_more (x : Nat) (h : x ≤ 1000000000) : (Go.bits .or .i64 (Go.bits .and .i64 (x : Int) 127) 128) % 256 = ((128 + x % 128 : Nat) : Int) := by
 rw [and127 _ (by omega) (by omega), or128 _ (by omega) (by omega)]
 omega
theorem num_val : ∀ (k x : Nat) (acc : List Int), x < 128 ^ (k + 1) → x ≤ 1000000000 → acc.length + k ≤ 1099511627776 →
  Ev (fun q => spec_PutNum.l0 q (x : Int) acc) (acc ++ num x) ∧ Ev (fun q => impl_putNum.l0 q acc (x : Int)) (acc ++ num x) := by
 intro k
 induction k with
 | zero =>
  intro x acc h1 h2 h3
  have hx : ¬ (x : Int) > 127 := by omega
  have e : (x : Int) % 256 = (x : Int) := by omega
  rw [num_one (by omega)]
  refine ⟨?_, ?_⟩
  ·refine Ev.step (fun q => by simp only [spec_PutNum.l0, e]; rfl) ?_
   exact Ev.neg hx (Ev.pos (by omega) (Ev.now _))
  ·refine Ev.step (fun q => by simp only [impl_putNum.l0, e]; rfl) ?_
   exact Ev.neg hx (Ev.pos (by omega) (Ev.now _))
 | succ k ih =>
  intro x acc h1 h2 h3
  by_cases hx : (x : Int) > 127
  ·have e1 := Aside0.mk (byte_more x h2)
   have e2 := Aside0.mk (show (x : Int) / 128 = ((x / 128 : Nat) : Int) by omega)
   have hp : x / 128 < 128 ^ (k + 1) := by
    rw [Nat.pow_succ] at h1
    omega
   obtain ⟨i1, i2⟩ := ih (x / 128) (acc ++ [((128 + x % 128 : Nat) : Int)]) hp (by omega) (by simp; omega)
   have en : acc ++ num x = acc ++ [((128 + x % 128 : Nat) : Int)] ++ num (x / 128) := by
    rw [num_more (by omega)]
    simp
   rw [en]
   refine ⟨?_, ?_⟩
   ·refine Ev.step (fun q => by simp only [spec_PutNum.l0, e1.out, e2.out]; rfl) ?_
    exact Ev.pos hx (Ev.pos (by omega) i1)
   ·refine Ev.step (fun q => by simp only [impl_putNum.l0, or_swap 128 (Go.bits .and .i64 (x : Int) 127), e1.out, e2.out]; rfl) ?_
    exact Ev.pos hx (Ev.pos (by omega) i2)
  ·have e : (x : Int) % 256 = (x : Int) := by omega
   rw [num_one (by omega)]
   refine ⟨?_, ?_⟩
   ·refine Ev.step (fun q => by simp only [spec_PutNum.l0, e]; rfl) ?_
    exact Ev.neg hx (Ev.pos (by omega) (Ev.now _))
   ·refine Ev.step (fun q => by simp only [impl_putNum.l0, e]; rfl) ?_
    exact Ev.neg hx (Ev.pos (by omega) (Ev.now _))
theorem putNum_val (l : List Int) (n : Nat) (hn : n ≤ 1000000000) (hl : l.length ≤ 1099511627000) : Ev (fun q => spec_PutNum.f q l (n : Int)) (l ++ num n) ∧ Ev (fun q => impl_putNum.f q l (n : Int)) (l ++ num n) := by
 have hm : mx 0 (mn (n : Int) 1000000000) = (n : Int) := by
  unfold mx mn
  by_cases h : (1000000000 : Int) < (n : Int)
  ·omega
  ·rw [if_neg h]
   by_cases h2 : (0 : Int) < (n : Int)
   ·rw [if_pos h2]
   ·rw [if_neg h2]
    omega
 obtain ⟨i1, i2⟩ := num_val 4 n l (by omega) hn (by omega)
 refine ⟨?_, ?_⟩
 ·unfold spec_PutNum.f
  refine Ev.bind (Ev.now _) ?_
  simp only [List.nil_append, List.length_nil]
  refine Ev.pos (by omega) (Ev.bind (Ev.now _) (Ev.neg (by omega) ?_))
  refine Ev.step (fun q => by simp only [spec_PutNum.j0]; rfl) ?_
  refine Ev.neg (by omega) ?_
  exact Ev.step (fun q => by simp only [spec_PutNum.j1]) i1
 ·unfold impl_putNum.f
  rw [hm]
  exact i2
theorem putText_val (l : List Int) (s : ByteArray) (hs : s.size ≤ 1000000000) (hl : l.length ≤ 1099511626000) : Ev (fun q => spec_PutText.f q l s) (l ++ textB s) ∧ Ev (fun q => impl_putText.f q l s) (l ++ textB s) := by
 obtain ⟨i1, i2⟩ := putNum_val l s.size hs (by omega)
 have h5 := num_five hs
 unfold textB
 rw [← List.append_assoc]
 refine ⟨?_, ?_⟩
 ·unfold spec_PutText.f
  exact Ev.bind i1 (Ev.pos (by rw [List.length_append]; omega) (Ev.now _))
 ·unfold impl_putText.f
  exact Ev.bind i2 (Ev.pos (by rw [List.length_append]; omega) (Ev.now _))
/-- How many bytes texts have at most. -/
theorem manyB_length (t : List ByteArray) (h : ∀ s ∈ t, s.size ≤ 1000000000) : ((manyB t).length : Int) ≤ 5 * t.length + total t := by
 induction t with
 | nil => simp [manyB_nil, total]
 | cons s t ih =>
  have i := ih (fun x hx => h x (List.mem_cons_of_mem _ hx))
  have h5 := num_five (h s (List.mem_cons_self ..))
  rw [manyB_cons, List.length_append, textB_length, total_cons, List.length_cons]
  omega
set_option maxHeartbeats 1000000 in
theorem putTexts_val (l : List Int) (t : List ByteArray) (hl : (l.length : Int) + 10 * t.length + total t ≤ 1099511620000) (ht : t.length ≤ 1000000000) (hs : ∀ s ∈ t, s.size ≤ 1000000000) :
  Ev (fun q => spec_PutTexts.f q l t) (l ++ textsB t) ∧ Ev (fun q => impl_putTexts.f q l t) (l ++ textsB t) := by
 have ht0 := total_nonneg t
 obtain ⟨e1, e2⟩ := putNum_val l t.length ht (by omega)
 have h5 := num_five ht
 have main : ∀ (d i : Nat) (acc : List Int), i + d = t.length → (acc.length : Int) + 10 * d + total (t.drop i) ≤ 1099511621000 → Ev (fun q => spec_PutTexts.l0 q t acc (i : Int)) (acc ++ manyB (t.drop i)) ∧ Ev (fun q => impl_putTexts.l0 q acc t (t.length : Int) (i : Int)) (acc ++ manyB (t.drop i)) := by
  intro d
  induction d with
  | zero =>
   intro i acc hi ha
   have hd : t.drop i = [] := List.drop_eq_nil_of_le (by omega)
   rw [hd, manyB_nil, List.append_nil]
   refine ⟨?_, ?_⟩
   ·refine Ev.step (fun q => by simp only [spec_PutTexts.l0]; rfl) ?_
    exact Ev.neg (by omega) (Ev.now _)
   ·refine Ev.step (fun q => by simp only [impl_putTexts.l0]; rfl) ?_
    exact Ev.neg (by omega) (Ev.now _)
  | succ d ih =>
   intro i acc hi ha
   have hi1 : i < t.length := by
    clear ha hl
    omega
   have hI : (i : Int) < (t.length : Int) := Int.ofNat_lt.2 hi1
   have hI0 : (0 : Int) ≤ (i : Int) := Int.natCast_nonneg i
   obtain ⟨x, hx⟩ := get_some (l := t) (i := i) hi1
   have hd := drop_one hx
   have hxs := hs x (List.mem_of_getElem? hx)
   have hx5 := num_five hxs
   have h0 := total_nonneg (t.drop (i + 1))
   rw [hd, total_cons] at ha
   obtain ⟨p1, p2⟩ := putText_val acc x hxs (by omega)
   obtain ⟨f1, f2⟩ := ih (i + 1) (acc ++ textB x) (by omega) (by rw [List.length_append, textB_length]; omega)
   have nx : wrap64 ((i : Int) + 1) = ((i + 1 : Nat) : Int) := by
    clear ha hl
    rw [w64 (by omega) (by omega)]
    omega
   have en : acc ++ manyB (t.drop i) = acc ++ textB x ++ manyB (t.drop (i + 1)) := by rw [hd, manyB_cons, List.append_assoc]
   rw [en]
   refine ⟨?_, ?_⟩
   ·refine Ev.step (fun q => by simp only [spec_PutTexts.l0]; rfl) ?_
    rw [rdOf_at hx, nx]
    refine Ev.pos hI (Ev.pos hI0 ?_)
    exact Ev.bind (f := fun q z => spec_PutTexts.l0 q t z ((i + 1 : Nat) : Int)) p1 f1
   ·refine Ev.step (fun q => by simp only [impl_putTexts.l0]; rfl) ?_
    rw [rdOf_at hx, nx]
    refine Ev.pos hI (Ev.pos hI0 (Ev.pos hI ?_))
    exact Ev.bind (f := fun q z => impl_putTexts.l0 q z t (t.length : Int) ((i + 1 : Nat) : Int)) p2 f2
 obtain ⟨f1, f2⟩ := main t.length 0 (l ++ num t.length) (by omega) (by rw [List.length_append, List.drop_zero]; omega)
 rw [List.drop_zero] at f1 f2
 unfold textsB
 rw [← List.append_assoc]
 refine ⟨?_, ?_⟩
 ·unfold spec_PutTexts.f
  exact Ev.bind e1 f1
 ·unfold impl_putTexts.f
  exact Ev.bind e2 f2
end Go.Proofs.Ytcogimnpffnanaa.Q
end

section
-- Written by a program of this session (wip/tools/pp.sh) over the print of the kit.
namespace Go.Proofs.Ytcogimnpffnanaa.Q
open Go.RowKit Go.Proofs.YtcogimnpffnanaaW.PrintWords Go.Proofs.YtcogimnpffnanaaW.PrintLast Go.Proofs.YtcogimnpffnanaaW.PrintMore
attribute [local go_sem] max2_int min2_int max_two min_two max_three min_three max_four min_four   -- for this text's walks alone
set_option linter.unusedVariables false
set_option linter.unusedSimpArgs false

end Go.Proofs.Ytcogimnpffnanaa.Q
end

section
-- Written by a program of this session (wip/tools/pp.sh) over the print of the kit.
namespace Go.Proofs.Ytcogimnpffnanaa.Q
open Go.RowKit Go.Proofs.YtcogimnpffnanaaW.PrintWords Go.Proofs.YtcogimnpffnanaaW.PrintLast Go.Proofs.YtcogimnpffnanaaW.PrintMore
attribute [local go_sem] max2_int min2_int max_two min_two max_three min_three max_four min_four   -- for this text's walks alone
set_option linter.unusedVariables false
set_option linter.unusedSimpArgs false

end Go.Proofs.Ytcogimnpffnanaa.Q
end

section
-- Written by a program of this session (wip/tools/pp.sh) over the print of the kit.
namespace Go.Proofs.Ytcogimnpffnanaa.Q
open Go.RowKit Go.Proofs.YtcogimnpffnanaaW.PrintWords Go.Proofs.YtcogimnpffnanaaW.PrintLast Go.Proofs.YtcogimnpffnanaaW.PrintMore
attribute [local go_sem] max2_int min2_int max_two min_two max_three min_three max_four min_four   -- for this text's walks alone
set_option linter.unusedVariables false
set_option linter.unusedSimpArgs false

end Go.Proofs.Ytcogimnpffnanaa.Q
end

section
-- Written by a program of this session (wip/tools/pp.sh) over the print of the kit.
namespace Go.Proofs.Ytcogimnpffnanaa.Q
open Go.RowKit Go.Proofs.YtcogimnpffnanaaW.PrintWords Go.Proofs.YtcogimnpffnanaaW.PrintLast Go.Proofs.YtcogimnpffnanaaW.PrintMore
attribute [local go_sem] max2_int min2_int max_two min_two max_three min_three max_four min_four   -- for this text's walks alone
set_option linter.unusedVariables false
set_option linter.unusedSimpArgs false

end Go.Proofs.Ytcogimnpffnanaa.Q
end

section
/- Texts read: they are what was put, and nothing else is read. Plain. -/
namespace Go.Proofs.Ytcogimnpffnanaa.Q
open Go.RowKit Go.Proofs.Ytcogimnpffnanaa.B Go.Proofs.YtcogimnpffnanaaW.PrintWords Go.Proofs.YtcogimnpffnanaaW.PrintMore
set_option linter.unusedVariables false
set_option linter.unusedSimpArgs false

end Go.Proofs.Ytcogimnpffnanaa.Q
end

section
-- Written by a program of this session (wip/tools/pp.sh) over the print of the kit.
namespace Go.Proofs.Ytcogimnpffnanaa.Q
open Go.RowKit Go.Proofs.YtcogimnpffnanaaW.PrintWords Go.Proofs.YtcogimnpffnanaaW.PrintLast Go.Proofs.YtcogimnpffnanaaW.PrintMore
attribute [local go_sem] max2_int min2_int max_two min_two max_three min_three max_four min_four   -- for this text's walks alone
set_option linter.unusedVariables false
set_option linter.unusedSimpArgs false

end Go.Proofs.Ytcogimnpffnanaa.Q
end

section
/- The program's (*getter).texts: the texts read behind a getter, in place. -/
namespace Go.Proofs.Ytcogimnpffnanaa.Q
open Go.RowKit Go.Proofs.YtcogimnpffnanaaW.PrintWords Go.Proofs.YtcogimnpffnanaaW.PrintLast Go.Proofs.YtcogimnpffnanaaW.PrintMore
set_option linter.unusedVariables false
set_option linter.unusedSimpArgs false

end Go.Proofs.Ytcogimnpffnanaa.Q
end

section
-- Written by a program of this session (wip/tools/pp.sh) over the print of the kit.
namespace Go.Proofs.Ytcogimnpffnanaa.Q
open Go.RowKit Go.Proofs.YtcogimnpffnanaaW.PrintWords Go.Proofs.YtcogimnpffnanaaW.PrintLast Go.Proofs.YtcogimnpffnanaaW.PrintMore
attribute [local go_sem] max2_int min2_int max_two min_two max_three min_three max_four min_four   -- for this text's walks alone
set_option linter.unusedVariables false
set_option linter.unusedSimpArgs false

end Go.Proofs.Ytcogimnpffnanaa.Q
end

section
-- Written by a program of this session (wip/tools/pp.sh) over the print of the kit.
namespace Go.Proofs.Ytcogimnpffnanaa.Q
open Go.RowKit Go.Proofs.YtcogimnpffnanaaW.PrintWords Go.Proofs.YtcogimnpffnanaaW.PrintLast Go.Proofs.YtcogimnpffnanaaW.PrintMore
attribute [local go_sem] max2_int min2_int max_two min_two max_three min_three max_four min_four   -- for this text's walks alone
set_option linter.unusedVariables false
set_option linter.unusedSimpArgs false

/-! ### spec_HeadOk: function 38 -/
def spec_HeadOk.f (a0_0 : Int) (a0_1 : ByteArray) : Option (Bool) := (spec_l1In.f a0_0 0 200).bind fun t602 => (if t602 = true then (some ((a0_1.size : Int) == 32)) else (some false))
set_option maxHeartbeats 8000000 in
set_option maxRecDepth 100000 in
theorem spec_HeadOk.calls (a0_0 : Int) (a0_1 : ByteArray) (r : Bool) (w : World) (h : spec_HeadOk.f a0_0 a0_1 = some r) :
  Calls Try.prog 38 #[.agg #[.int .i64 a0_0, .string a0_1]] w fun e w' => e = .returned (.bool r) ∧ Below w.heap.size w w' := by
 have hu31 := Try.underlying31
 have HB := Aside0.mk (Below.refl w.heap.size w)
 have H : ((spec_l1In.f a0_0 0 200).bind fun t602 => (if t602 = true then (some ((a0_1.size : Int) == 32)) else (some false))) = some r := h
 clear h
 replace H := Option.bind_eq_some_iff.mp H
 obtain ⟨t602, A20, H⟩ := H
 replace H : (if t602 = true then (some ((a0_1.size : Int) == 32)) else (some false)) = some r := H
 have A2 := Aside0.mk A20
 clear A20
 by_cases c3 : t602 = true
 ·subst c3
  have H1 : (some ((a0_1.size : Int) == 32)) = some r := by rw [if_pos rfl] at H; exact H
  clear H
  have H := H1
  clear H1
  obtain rfl := Option.some.inj H
  go_enter Try.func38, Try.ntmps38
  go_wp2_with (first | ((with_reducible refine gate_dst (N := 1) rfl ?_); (try (refine gate_guard (by rfl) ?_; dsimp only)); refine box_event ?hg (N := 1) ?hd (cs := #[.int .i64 a0_0, .string a0_1]) (t := 31) ?hr ?_; (case hd => rfl); (case hg => rfl); (case hr => first | (go_simp; done) | (go_simp; rfl)); intro gb601 hg w4 hbox hb; have n0_ := Aside0.mk (below_step (by repeat (first | (with_reducible first | exact HB.out | apply below_alloc | apply pw_below_drewN | apply below_drew1) | exact HB.out)) hb); have n1_ := Aside0.mk (hbox); have n2_ := Aside0.mk ((by rw [hg]; exact (below_size (by repeat (first | (with_reducible first | exact HB.out | apply below_alloc | apply pw_below_drewN | apply below_drew1) | exact HB.out))) : w.heap.size ≤ gb601)); have n3_ := Aside0.mk ((by rw [hg]; exact (below_size (by repeat (first | (with_reducible first | exact HB.out | apply below_alloc | apply pw_below_drewN | apply below_drew1) | exact HB.out))) : w.heap.size ≤ gb601)); clear HB; have HB := n0_; have BK601 := n1_; have GW601 := n2_; have GE601 := n3_; clear n0_ n1_ n2_ n3_; clear hb hbox hg; have hcz5_0 : w4.cell? ⟨gb601, 0, none⟩ = some (.int .i64 a0_0) := (blk_cell BK601.out 0).trans rfl; have hcz5_1 : w4.cell? ⟨gb601, 1, none⟩ = some (.string a0_1) := (blk_cell BK601.out 1).trans rfl; have hfz5_0 := blk_frozen BK601.out 0; have hfz5_1 := blk_frozen BK601.out 1) | ((with_reducible refine gate_callee (f := 91) rfl ?_); refine goesL_ (some 5) rfl rfl Try.func91 (by kernel_rfl) rfl #[.int .i64 a0_0, .int .i64 0, .int .i64 200] rfl (by (try simp only [List.map_toArray, List.map_cons, List.map_nil]); first | done | rfl | (simp only [List.length_drop, List.length_take]; rfl)) ?_; (with_reducible refine (spec_l1In.calls a0_0 0 200 true _ A2.out).mono ?_); rintro e w' ⟨rfl, ⟨nd, rfl⟩⟩; refine ⟨_, rfl, ?_⟩))
  go_ret
  exact ⟨by first | rfl | (simp [errW_none, errW_some] <;> rfl) | (simp [*, errW_none, errW_some] <;> rfl), by repeat (first | (with_reducible first | exact HB.out | apply below_alloc | apply pw_below_drewN | apply below_drew1 | refine below_set ?_ GE601.out) | exact HB.out)⟩
 ·replace c3 := Bool.eq_false_iff.mpr c3
  subst c3
  have H1 : (some false) = some r := by rw [if_neg (show ¬ (false = true) by decide)] at H; exact H
  clear H
  have H := H1
  clear H1
  obtain rfl := Option.some.inj H
  go_enter Try.func38, Try.ntmps38
  go_wp2_with (first | ((with_reducible refine gate_dst (N := 1) rfl ?_); (try (refine gate_guard (by rfl) ?_; dsimp only)); refine box_event ?hg (N := 1) ?hd (cs := #[.int .i64 a0_0, .string a0_1]) (t := 31) ?hr ?_; (case hd => rfl); (case hg => rfl); (case hr => first | (go_simp; done) | (go_simp; rfl)); intro gb601 hg w6 hbox hb; have n0_ := Aside0.mk (below_step (by repeat (first | (with_reducible first | exact HB.out | apply below_alloc | apply pw_below_drewN | apply below_drew1) | exact HB.out)) hb); have n1_ := Aside0.mk (hbox); have n2_ := Aside0.mk ((by rw [hg]; exact (below_size (by repeat (first | (with_reducible first | exact HB.out | apply below_alloc | apply pw_below_drewN | apply below_drew1) | exact HB.out))) : w.heap.size ≤ gb601)); have n3_ := Aside0.mk ((by rw [hg]; exact (below_size (by repeat (first | (with_reducible first | exact HB.out | apply below_alloc | apply pw_below_drewN | apply below_drew1) | exact HB.out))) : w.heap.size ≤ gb601)); clear HB; have HB := n0_; have BK601 := n1_; have GW601 := n2_; have GE601 := n3_; clear n0_ n1_ n2_ n3_; clear hb hbox hg; have hcz7_0 : w6.cell? ⟨gb601, 0, none⟩ = some (.int .i64 a0_0) := (blk_cell BK601.out 0).trans rfl; have hcz7_1 : w6.cell? ⟨gb601, 1, none⟩ = some (.string a0_1) := (blk_cell BK601.out 1).trans rfl; have hfz7_0 := blk_frozen BK601.out 0; have hfz7_1 := blk_frozen BK601.out 1) | ((with_reducible refine gate_callee (f := 91) rfl ?_); refine goesL_ (some 5) rfl rfl Try.func91 (by kernel_rfl) rfl #[.int .i64 a0_0, .int .i64 0, .int .i64 200] rfl (by (try simp only [List.map_toArray, List.map_cons, List.map_nil]); first | done | rfl | (simp only [List.length_drop, List.length_take]; rfl)) ?_; (with_reducible refine (spec_l1In.calls a0_0 0 200 false _ A2.out).mono ?_); rintro e w' ⟨rfl, ⟨nd, rfl⟩⟩; refine ⟨_, rfl, ?_⟩))
  go_ret
  exact ⟨by first | rfl | (simp [errW_none, errW_some] <;> rfl) | (simp [*, errW_none, errW_some] <;> rfl), by repeat (first | (with_reducible first | exact HB.out | apply below_alloc | apply pw_below_drewN | apply below_drew1 | refine below_set ?_ GE601.out) | exact HB.out)⟩

end Go.Proofs.Ytcogimnpffnanaa.Q
end

section
-- Written by a program of this session (wip/tools/pp.sh) over the print of the kit.
namespace Go.Proofs.Ytcogimnpffnanaa.Q
open Go.RowKit Go.Proofs.YtcogimnpffnanaaW.PrintWords Go.Proofs.YtcogimnpffnanaaW.PrintLast Go.Proofs.YtcogimnpffnanaaW.PrintMore
attribute [local go_sem] max2_int min2_int max_two min_two max_three min_three max_four min_four   -- for this text's walks alone
set_option linter.unusedVariables false
set_option linter.unusedSimpArgs false

/-! ### impl_HeadOk: function 119 -/
def impl_HeadOk.f (a0_0 : Int) (a0_1 : ByteArray) : Option (Bool) := (impl_inRange.f a0_0 0 200).bind fun t602 => (if t602 = true then (some ((a0_1.size : Int) == 32)) else (some false))
set_option maxHeartbeats 8000000 in
set_option maxRecDepth 100000 in
theorem impl_HeadOk.calls (a0_0 : Int) (a0_1 : ByteArray) (r : Bool) (w : World) (h : impl_HeadOk.f a0_0 a0_1 = some r) :
  Calls Try.prog 119 #[.agg #[.int .i64 a0_0, .string a0_1]] w fun e w' => e = .returned (.bool r) ∧ Below w.heap.size w w' := by
 have hu31 := Try.underlying31
 have HB := Aside0.mk (Below.refl w.heap.size w)
 have H : ((impl_inRange.f a0_0 0 200).bind fun t602 => (if t602 = true then (some ((a0_1.size : Int) == 32)) else (some false))) = some r := h
 clear h
 replace H := Option.bind_eq_some_iff.mp H
 obtain ⟨t602, A20, H⟩ := H
 replace H : (if t602 = true then (some ((a0_1.size : Int) == 32)) else (some false)) = some r := H
 have A2 := Aside0.mk A20
 clear A20
 by_cases c3 : t602 = true
 ·subst c3
  have H1 : (some ((a0_1.size : Int) == 32)) = some r := by rw [if_pos rfl] at H; exact H
  clear H
  have H := H1
  clear H1
  obtain rfl := Option.some.inj H
  go_enter Try.func119, Try.ntmps119
  go_wp2_with (first | ((with_reducible refine gate_dst (N := 1) rfl ?_); (try (refine gate_guard (by rfl) ?_; dsimp only)); refine box_event ?hg (N := 1) ?hd (cs := #[.int .i64 a0_0, .string a0_1]) (t := 31) ?hr ?_; (case hd => rfl); (case hg => rfl); (case hr => first | (go_simp; done) | (go_simp; rfl)); intro gb601 hg w4 hbox hb; have n0_ := Aside0.mk (below_step (by repeat (first | (with_reducible first | exact HB.out | apply below_alloc | apply pw_below_drewN | apply below_drew1) | exact HB.out)) hb); have n1_ := Aside0.mk (hbox); have n2_ := Aside0.mk ((by rw [hg]; exact (below_size (by repeat (first | (with_reducible first | exact HB.out | apply below_alloc | apply pw_below_drewN | apply below_drew1) | exact HB.out))) : w.heap.size ≤ gb601)); have n3_ := Aside0.mk ((by rw [hg]; exact (below_size (by repeat (first | (with_reducible first | exact HB.out | apply below_alloc | apply pw_below_drewN | apply below_drew1) | exact HB.out))) : w.heap.size ≤ gb601)); clear HB; have HB := n0_; have BK601 := n1_; have GW601 := n2_; have GE601 := n3_; clear n0_ n1_ n2_ n3_; clear hb hbox hg; have hcz5_0 : w4.cell? ⟨gb601, 0, none⟩ = some (.int .i64 a0_0) := (blk_cell BK601.out 0).trans rfl; have hcz5_1 : w4.cell? ⟨gb601, 1, none⟩ = some (.string a0_1) := (blk_cell BK601.out 1).trans rfl; have hfz5_0 := blk_frozen BK601.out 0; have hfz5_1 := blk_frozen BK601.out 1) | ((with_reducible refine gate_callee (f := 93) rfl ?_); refine goesL_ (some 5) rfl rfl Try.func93 (by kernel_rfl) rfl #[.int .i64 a0_0, .int .i64 0, .int .i64 200] rfl (by (try simp only [List.map_toArray, List.map_cons, List.map_nil]); first | done | rfl | (simp only [List.length_drop, List.length_take]; rfl)) ?_; (with_reducible refine (impl_inRange.calls a0_0 0 200 true _ A2.out).mono ?_); rintro e w' ⟨rfl, ⟨nd, rfl⟩⟩; refine ⟨_, rfl, ?_⟩))
  go_ret
  exact ⟨by first | rfl | (simp [errW_none, errW_some] <;> rfl) | (simp [*, errW_none, errW_some] <;> rfl), by repeat (first | (with_reducible first | exact HB.out | apply below_alloc | apply pw_below_drewN | apply below_drew1 | refine below_set ?_ GE601.out) | exact HB.out)⟩
 ·replace c3 := Bool.eq_false_iff.mpr c3
  subst c3
  have H1 : (some false) = some r := by rw [if_neg (show ¬ (false = true) by decide)] at H; exact H
  clear H
  have H := H1
  clear H1
  obtain rfl := Option.some.inj H
  go_enter Try.func119, Try.ntmps119
  go_wp2_with (first | ((with_reducible refine gate_dst (N := 1) rfl ?_); (try (refine gate_guard (by rfl) ?_; dsimp only)); refine box_event ?hg (N := 1) ?hd (cs := #[.int .i64 a0_0, .string a0_1]) (t := 31) ?hr ?_; (case hd => rfl); (case hg => rfl); (case hr => first | (go_simp; done) | (go_simp; rfl)); intro gb601 hg w6 hbox hb; have n0_ := Aside0.mk (below_step (by repeat (first | (with_reducible first | exact HB.out | apply below_alloc | apply pw_below_drewN | apply below_drew1) | exact HB.out)) hb); have n1_ := Aside0.mk (hbox); have n2_ := Aside0.mk ((by rw [hg]; exact (below_size (by repeat (first | (with_reducible first | exact HB.out | apply below_alloc | apply pw_below_drewN | apply below_drew1) | exact HB.out))) : w.heap.size ≤ gb601)); have n3_ := Aside0.mk ((by rw [hg]; exact (below_size (by repeat (first | (with_reducible first | exact HB.out | apply below_alloc | apply pw_below_drewN | apply below_drew1) | exact HB.out))) : w.heap.size ≤ gb601)); clear HB; have HB := n0_; have BK601 := n1_; have GW601 := n2_; have GE601 := n3_; clear n0_ n1_ n2_ n3_; clear hb hbox hg; have hcz7_0 : w6.cell? ⟨gb601, 0, none⟩ = some (.int .i64 a0_0) := (blk_cell BK601.out 0).trans rfl; have hcz7_1 : w6.cell? ⟨gb601, 1, none⟩ = some (.string a0_1) := (blk_cell BK601.out 1).trans rfl; have hfz7_0 := blk_frozen BK601.out 0; have hfz7_1 := blk_frozen BK601.out 1) | ((with_reducible refine gate_callee (f := 93) rfl ?_); refine goesL_ (some 5) rfl rfl Try.func93 (by kernel_rfl) rfl #[.int .i64 a0_0, .int .i64 0, .int .i64 200] rfl (by (try simp only [List.map_toArray, List.map_cons, List.map_nil]); first | done | rfl | (simp only [List.length_drop, List.length_take]; rfl)) ?_; (with_reducible refine (impl_inRange.calls a0_0 0 200 false _ A2.out).mono ?_); rintro e w' ⟨rfl, ⟨nd, rfl⟩⟩; refine ⟨_, rfl, ?_⟩))
  go_ret
  exact ⟨by first | rfl | (simp [errW_none, errW_some] <;> rfl) | (simp [*, errW_none, errW_some] <;> rfl), by repeat (first | (with_reducible first | exact HB.out | apply below_alloc | apply pw_below_drewN | apply below_drew1 | refine below_set ?_ GE601.out) | exact HB.out)⟩

end Go.Proofs.Ytcogimnpffnanaa.Q
end

section
/- Getters: what they leave, step by step. Plain. -/
namespace Go.Proofs.Ytcogimnpffnanaa.Q
open Go.RowKit Go.Proofs.Ytcogimnpffnanaa.B Go.Proofs.YtcogimnpffnanaaW.PrintWords Go.Proofs.YtcogimnpffnanaaW.PrintMore
set_option linter.unusedVariables false
set_option linter.unusedSimpArgs false

def headOk (n : Int) (s : ByteArray) : Bool := if 0 ≤ n ∧ n ≤ 200 then ((s.size : Int) == 32) else false
theorem spec_HeadOk_eq (n : Int) (s : ByteArray) : spec_HeadOk.f n s = some (headOk n s) := by
 unfold spec_HeadOk.f headOk
 rw [spec_in_eq]
 simp only [Option.bind_some]
 by_cases h : 0 ≤ n ∧ n ≤ 200
 ·rw [decide_eq_true h, if_pos h]
  rfl
 ·rw [decide_eq_false h, if_neg h]
  rfl
theorem impl_HeadOk_eq (n : Int) (s : ByteArray) : impl_HeadOk.f n s = some (headOk n s) := by
 unfold impl_HeadOk.f headOk
 rw [impl_in_eq]
 simp only [Option.bind_some]
 by_cases h : 0 ≤ n ∧ n ≤ 200
 ·rw [decide_eq_true h, if_pos h]
  rfl
 ·rw [decide_eq_false h, if_neg h]
  rfl
theorem headOk_parts {n : Int} {s : ByteArray} (h : headOk n s = true) : 0 ≤ n ∧ n ≤ 200 ∧ s.size = 32 := by
 unfold headOk at h
 by_cases hn : 0 ≤ n ∧ n ≤ 200
 ·rw [if_pos hn] at h
  have := beq_iff_eq.1 h
  omega
 ·rw [if_neg hn] at h
  cases h
end Go.Proofs.Ytcogimnpffnanaa.Q
end

section
-- Written by a program of this session (wip/tools/pp.sh) over the print of the kit.
namespace Go.Proofs.Ytcogimnpffnanaa.Q
open Go.RowKit Go.Proofs.YtcogimnpffnanaaW.PrintWords Go.Proofs.YtcogimnpffnanaaW.PrintLast Go.Proofs.YtcogimnpffnanaaW.PrintMore
attribute [local go_sem] max2_int min2_int max_two min_two max_three min_three max_four min_four   -- for this text's walks alone
set_option linter.unusedVariables false
set_option linter.unusedSimpArgs false

/-! ### impl_isId: function 141 -/
def impl_isId.f (a0 : Int) : Option (Bool) := (impl_inRange.f a0 0 20).bind fun t601 => (some t601)
set_option maxHeartbeats 8000000 in
set_option maxRecDepth 100000 in
theorem impl_isId.calls (a0 : Int) (r : Bool) (w : World) (h : impl_isId.f a0 = some r) :
  Calls Try.prog 141 #[.int .i64 a0] w fun e w' => e = .returned (.bool r) ∧ Drawn0 w w' := by
 have H : ((impl_inRange.f a0 0 20).bind fun t601 => (some t601)) = some r := h
 clear h
 replace H := Option.bind_eq_some_iff.mp H
 obtain ⟨t601, A20, H⟩ := H
 replace H : (some t601) = some r := H
 have A2 := Aside0.mk A20
 clear A20
 obtain rfl := Option.some.inj H
 go_enter Try.func141, Try.ntmps141
 go_wp2_with (first | ((with_reducible refine gate_callee (f := 93) rfl ?_); refine goesL_ (some 4) rfl rfl Try.func93 (by kernel_rfl) rfl #[.int .i64 a0, .int .i64 0, .int .i64 20] rfl (by (try simp only [List.map_toArray, List.map_cons, List.map_nil]); first | done | rfl | (simp only [List.length_drop, List.length_take]; rfl)) ?_; (with_reducible refine (impl_inRange.calls a0 0 20 t601 _ A2.out).mono ?_); rintro e w' ⟨rfl, ⟨nd, rfl⟩⟩; refine ⟨_, rfl, ?_⟩))
 go_ret
 exact ⟨by first | rfl | (simp; done) | (simp [*]; done), by repeat (first | exact Drawn0.refl _ | apply Drawn0.step)⟩

end Go.Proofs.Ytcogimnpffnanaa.Q
end

section
-- Written by a program of this session (wip/tools/pp.sh) over the print of the kit.
namespace Go.Proofs.Ytcogimnpffnanaa.Q
open Go.RowKit Go.Proofs.YtcogimnpffnanaaW.PrintWords Go.Proofs.YtcogimnpffnanaaW.PrintLast Go.Proofs.YtcogimnpffnanaaW.PrintMore
attribute [local go_sem] max2_int min2_int max_two min_two max_three min_three max_four min_four   -- for this text's walks alone
set_option linter.unusedVariables false
set_option linter.unusedSimpArgs false

/-! ### impl_MsgOk: function 74 -/
def impl_MsgOk.j0 : Nat → Bool → Int → Int → Int → Int → ByteArray → Int → List ByteArray → Option (Bool)
 | 0, _, _, _, _, _, _, _, _ => none
 | k + 1, x31, x602000, x602001, x602002, x602003, x602004, x602005, x602006 => if x31 = true then (some false) else (if x602000 = 1 then (if x602005 = 0 then (some ((x602006.length : Int) == 0)) else (some false)) else (if x602000 = 2 then (if x602005 < x602003 then (some ((x602006.length : Int) == 0)) else (some false)) else (if x602000 = 3 then (if x602005 < x602003 then (some ((x602006.length : Int) == (wrap64 (x602003 - x602005)))) else (some false)) else (some false))))
def impl_MsgOk.f (k : Nat) (a0_0 : Int) (a0_1 : Int) (a0_2 : Int) (a0_3 : Int) (a0_4 : ByteArray) (a0_5 : Int) (l0_6 : List ByteArray) : Option (Bool) := (impl_isId.f a0_1).bind fun t602 => (if t602 = true then ((impl_isId.f a0_2).bind fun t603 => (if t603 = true then (if a0_1 = a0_2 then (impl_MsgOk.j0 k true a0_0 a0_1 a0_2 a0_3 a0_4 a0_5 l0_6) else ((impl_HeadOk.f a0_3 a0_4).bind fun t604 => (if t604 = true then ((impl_inRange.f a0_5 0 200).bind fun t605 => (impl_MsgOk.j0 k (!t605) a0_0 a0_1 a0_2 a0_3 a0_4 a0_5 l0_6)) else (impl_MsgOk.j0 k true a0_0 a0_1 a0_2 a0_3 a0_4 a0_5 l0_6)))) else (impl_MsgOk.j0 k true a0_0 a0_1 a0_2 a0_3 a0_4 a0_5 l0_6))) else (impl_MsgOk.j0 k true a0_0 a0_1 a0_2 a0_3 a0_4 a0_5 l0_6))
theorem impl_MsgOk.mono_l : ∀ k, (∀ y0 y1 y2 y3 y4 y5 y6 y7, LeO (impl_MsgOk.j0 k y0 y1 y2 y3 y4 y5 y6 y7) (impl_MsgOk.j0 (k + 1) y0 y1 y2 y3 y4 y5 y6 y7))
 | 0 => fun _ _ _ _ _ _ _ _ r h => by simp [impl_MsgOk.j0] at h
 | k + 1 => by
  have ih0 := impl_MsgOk.mono_l k
  ·intro y0 y1 y2 y3 y4 y5 y6 y7
   unfold impl_MsgOk.j0
   repeat' first
   | (with_reducible exact ih0 _ _ _ _ _ _ _ _)
   | (with_reducible exact LeO.refl _)
   | (with_reducible exact LeO.none _)
   | (with_reducible refine LeO.ite ?_ ?_)
   | (with_reducible refine LeO.bind ?_ (fun _ => ?_))
   | exact ih0 _ _ _ _ _ _ _ _
   | exact LeO.none _
   | refine LeO.ite ?_ ?_
   | refine LeO.bind ?_ (fun _ => ?_)
theorem impl_MsgOk.mono : ∀ a0 a1 a2 a3 a4 a5 a6 k, LeO (impl_MsgOk.f k a0 a1 a2 a3 a4 a5 a6) (impl_MsgOk.f (k + 1) a0 a1 a2 a3 a4 a5 a6) := by
 intro a0 a1 a2 a3 a4 a5 a6 k
 have ih0 := impl_MsgOk.mono_l k
 unfold impl_MsgOk.f
 repeat' first
   | (with_reducible exact ih0 _ _ _ _ _ _ _ _)
   | (with_reducible exact LeO.refl _)
   | (with_reducible exact LeO.none _)
   | (with_reducible refine LeO.ite ?_ ?_)
   | (with_reducible refine LeO.bind ?_ (fun _ => ?_))
   | exact ih0 _ _ _ _ _ _ _ _
   | exact LeO.none _
   | refine LeO.ite ?_ ?_
   | refine LeO.bind ?_ (fun _ => ?_)
set_option maxHeartbeats 8000000 in
set_option maxRecDepth 100000 in
theorem impl_MsgOk.calls (k : Nat) (a0_0 : Int) (a0_1 : Int) (a0_2 : Int) (a0_3 : Int) (a0_4 : ByteArray) (a0_5 : Int) (A0_6 : Option Addr) (c0_6 : Nat) (l0_6 : List ByteArray) (r : Bool) (w : World) (hr0_6 : Kd.C Kd.string w A0_6 l0_6.length l0_6) (hc0_6 : l0_6.length ≤ c0_6) (h : impl_MsgOk.f k a0_0 a0_1 a0_2 a0_3 a0_4 a0_5 l0_6 = some r) :
  Calls Try.prog 74 #[.agg #[.int .i64 a0_0, .int .i64 a0_1, .int .i64 a0_2, .int .i64 a0_3, .string a0_4, .int .i64 a0_5, .slice A0_6 l0_6.length c0_6]] w fun e w' => e = .returned (.bool r) ∧ Below w.heap.size w w' := by
 have hu33 := Try.underlying33
 have hu31 := Try.underlying31
 have HR0_6 := Aside0.mk hr0_6
 have HC0_6 := Aside0.mk hc0_6
 clear hr0_6 hc0_6
 have HB := Aside0.mk (Below.refl w.heap.size w)
 have H : ((impl_isId.f a0_1).bind fun t602 => (if t602 = true then ((impl_isId.f a0_2).bind fun t603 => (if t603 = true then (if a0_1 = a0_2 then (impl_MsgOk.j0 k true a0_0 a0_1 a0_2 a0_3 a0_4 a0_5 l0_6) else ((impl_HeadOk.f a0_3 a0_4).bind fun t604 => (if t604 = true then ((impl_inRange.f a0_5 0 200).bind fun t605 => (impl_MsgOk.j0 k (!t605) a0_0 a0_1 a0_2 a0_3 a0_4 a0_5 l0_6)) else (impl_MsgOk.j0 k true a0_0 a0_1 a0_2 a0_3 a0_4 a0_5 l0_6)))) else (impl_MsgOk.j0 k true a0_0 a0_1 a0_2 a0_3 a0_4 a0_5 l0_6))) else (impl_MsgOk.j0 k true a0_0 a0_1 a0_2 a0_3 a0_4 a0_5 l0_6))) = some r := h
 clear h
 have HC2 := Aside0.mk H
 clear H
 go_enter Try.func74, Try.ntmps74
 go_upto_region 1 with (first | ((with_reducible refine gate_dst (N := 1) rfl ?_); (try (refine gate_guard (by rfl) ?_; dsimp only)); refine box_event ?hg (N := 1) ?hd (cs := #[.int .i64 a0_0, .int .i64 a0_1, .int .i64 a0_2, .int .i64 a0_3, .string a0_4, .int .i64 a0_5, .slice A0_6 l0_6.length c0_6]) (t := 33) ?hr ?_; (case hd => rfl); (case hg => rfl); (case hr => first | (go_simp; done) | (go_simp; rfl)); intro gb601 hg w3 hbox hb; have n0_ := Aside0.mk (below_step (by repeat (first | (with_reducible first | exact HB.out | apply below_alloc | apply pw_below_drewN | apply below_drew1) | exact HB.out)) hb); have n1_ := Aside0.mk (hbox); have n2_ := Aside0.mk ((by rw [hg]; exact (below_size (by repeat (first | (with_reducible first | exact HB.out | apply below_alloc | apply pw_below_drewN | apply below_drew1) | exact HB.out))) : w.heap.size ≤ gb601)); have n3_ := Aside0.mk ((by rw [hg]; exact (below_size (by repeat (first | (with_reducible first | exact HB.out | apply below_alloc | apply pw_below_drewN | apply below_drew1) | exact HB.out))) : w.heap.size ≤ gb601)); clear HB; have HB := n0_; have BK601 := n1_; have GW601 := n2_; have GE601 := n3_; clear n0_ n1_ n2_ n3_; clear hb hbox hg))
 (try simp only [Act.put, List.setIfInBounds_toArray, List.set_cons_zero, List.set_cons_succ])
 go_cut [31] (fun v31 wc => ∃ (kq : Nat) (x31_1 : Bool), v31 = .bool x31_1 ∧ Aside0 (impl_MsgOk.j0 kq x31_1 a0_0 a0_1 a0_2 a0_3 a0_4 a0_5 l0_6 = some r) ∧ Aside0 (kq ≤ k) ∧ Aside0 (wc.heap[gb601]? = some (.cells #[.int .i64 a0_0, .int .i64 a0_1, .int .i64 a0_2, .int .i64 a0_3, .string a0_4, .int .i64 a0_5, (.slice A0_6 l0_6.length c0_6)] 33 (0, 0))) ∧ Aside0 (Below w.heap.size w wc))
 case first =>
  have H := HC2.out
  clear HC2
  replace H := Option.bind_eq_some_iff.mp H
  obtain ⟨t602, A40, H⟩ := H
  replace H : (if t602 = true then ((impl_isId.f a0_2).bind fun t603 => (if t603 = true then (if a0_1 = a0_2 then (impl_MsgOk.j0 k true a0_0 a0_1 a0_2 a0_3 a0_4 a0_5 l0_6) else ((impl_HeadOk.f a0_3 a0_4).bind fun t604 => (if t604 = true then ((impl_inRange.f a0_5 0 200).bind fun t605 => (impl_MsgOk.j0 k (!t605) a0_0 a0_1 a0_2 a0_3 a0_4 a0_5 l0_6)) else (impl_MsgOk.j0 k true a0_0 a0_1 a0_2 a0_3 a0_4 a0_5 l0_6)))) else (impl_MsgOk.j0 k true a0_0 a0_1 a0_2 a0_3 a0_4 a0_5 l0_6))) else (impl_MsgOk.j0 k true a0_0 a0_1 a0_2 a0_3 a0_4 a0_5 l0_6)) = some r := H
  have A4 := Aside0.mk A40
  clear A40
  by_cases c5 : t602 = true
  ·subst c5
   have H1 : ((impl_isId.f a0_2).bind fun t603 => (if t603 = true then (if a0_1 = a0_2 then (impl_MsgOk.j0 k true a0_0 a0_1 a0_2 a0_3 a0_4 a0_5 l0_6) else ((impl_HeadOk.f a0_3 a0_4).bind fun t604 => (if t604 = true then ((impl_inRange.f a0_5 0 200).bind fun t605 => (impl_MsgOk.j0 k (!t605) a0_0 a0_1 a0_2 a0_3 a0_4 a0_5 l0_6)) else (impl_MsgOk.j0 k true a0_0 a0_1 a0_2 a0_3 a0_4 a0_5 l0_6)))) else (impl_MsgOk.j0 k true a0_0 a0_1 a0_2 a0_3 a0_4 a0_5 l0_6))) = some r := by rw [if_pos rfl] at H; exact H
   clear H
   have H := H1
   clear H1
   replace H := Option.bind_eq_some_iff.mp H
   obtain ⟨t603, A60, H⟩ := H
   replace H : (if t603 = true then (if a0_1 = a0_2 then (impl_MsgOk.j0 k true a0_0 a0_1 a0_2 a0_3 a0_4 a0_5 l0_6) else ((impl_HeadOk.f a0_3 a0_4).bind fun t604 => (if t604 = true then ((impl_inRange.f a0_5 0 200).bind fun t605 => (impl_MsgOk.j0 k (!t605) a0_0 a0_1 a0_2 a0_3 a0_4 a0_5 l0_6)) else (impl_MsgOk.j0 k true a0_0 a0_1 a0_2 a0_3 a0_4 a0_5 l0_6)))) else (impl_MsgOk.j0 k true a0_0 a0_1 a0_2 a0_3 a0_4 a0_5 l0_6)) = some r := H
   have A6 := Aside0.mk A60
   clear A60
   by_cases c7 : t603 = true
   ·subst c7
    have H1 : (if a0_1 = a0_2 then (impl_MsgOk.j0 k true a0_0 a0_1 a0_2 a0_3 a0_4 a0_5 l0_6) else ((impl_HeadOk.f a0_3 a0_4).bind fun t604 => (if t604 = true then ((impl_inRange.f a0_5 0 200).bind fun t605 => (impl_MsgOk.j0 k (!t605) a0_0 a0_1 a0_2 a0_3 a0_4 a0_5 l0_6)) else (impl_MsgOk.j0 k true a0_0 a0_1 a0_2 a0_3 a0_4 a0_5 l0_6)))) = some r := by rw [if_pos rfl] at H; exact H
    clear H
    have H := H1
    clear H1
    by_cases c8 : a0_1 = a0_2
    ·rw [if_pos c8] at H
     have c8b0 : (a0_1 == a0_2) = true := beq_iff_eq.mpr c8
     have c8b1 : (a0_1 != a0_2) = false := bne_eq_false_iff_eq.mpr c8
     clear c8
     (first | rw [c8b0] | (simp only [i64_w, i32_w]; rw [c8b0]) | skip)
     have H' := Aside0.mk H
     clear H
     have hcz9_0 : w3.cell? ⟨gb601, 0, none⟩ = some (.int .i64 a0_0) := (blk_cell BK601.out 0).trans rfl
     have hcz9_1 : w3.cell? ⟨gb601, 1, none⟩ = some (.int .i64 a0_1) := (blk_cell BK601.out 1).trans rfl
     have hcz9_2 : w3.cell? ⟨gb601, 2, none⟩ = some (.int .i64 a0_2) := (blk_cell BK601.out 2).trans rfl
     have hcz9_3 : w3.cell? ⟨gb601, 3, none⟩ = some (.int .i64 a0_3) := (blk_cell BK601.out 3).trans rfl
     have hcz9_4 : w3.cell? ⟨gb601, 4, none⟩ = some (.string a0_4) := (blk_cell BK601.out 4).trans rfl
     have hcz9_5 : w3.cell? ⟨gb601, 5, none⟩ = some (.int .i64 a0_5) := (blk_cell BK601.out 5).trans rfl
     have hcz9_6 : w3.cell? ⟨gb601, 6, none⟩ = some (.slice A0_6 l0_6.length c0_6) := (blk_cell BK601.out 6).trans rfl
     have hfz9_0 := blk_frozen BK601.out 0
     have hfz9_1 := blk_frozen BK601.out 1
     have hfz9_2 := blk_frozen BK601.out 2
     have hfz9_3 := blk_frozen BK601.out 3
     have hfz9_4 := blk_frozen BK601.out 4
     have hfz9_5 := blk_frozen BK601.out 5
     have hfz9_6 := blk_frozen BK601.out 6
     go_wp2_with (first | ((with_reducible refine gate_callee (f := 141) rfl ?_); refine goesL_ (some 5) rfl rfl Try.func141 (by kernel_rfl) rfl #[.int .i64 a0_1] rfl (by (try simp only [List.map_toArray, List.map_cons, List.map_nil]); first | done | rfl | (simp only [List.length_drop, List.length_take]; rfl)) ?_; (with_reducible refine (impl_isId.calls a0_1 true _ A4.out).mono ?_); rintro e w' ⟨rfl, ⟨nd, rfl⟩⟩; refine ⟨_, rfl, ?_⟩) | (go_at_call 141; (with_reducible refine (impl_isId.calls a0_2 true _ A6.out).mono ?_); rintro e w' ⟨rfl, ⟨nd, rfl⟩⟩))
     go_meet
     case rel => exact ⟨_, (true), (by first | rfl | (simp; done) | (simp [*]; done)), H', ⟨by first | omega | exact Nat.le_refl _⟩, ⟨by (with_reducible repeat (first | refine blk_drewN ?_ _ | refine blk_drew ?_ | refine blk_alloc ?_ _)); exact BK601.out⟩, ⟨by repeat (first | (with_reducible first | exact HB.out | apply below_alloc | apply pw_below_drewN | apply below_drew1 | refine below_set ?_ GE601.out) | exact HB.out)⟩⟩
    ·rw [if_neg c8] at H
     have c8b0 : (a0_1 == a0_2) = false := beq_eq_false_iff_ne.mpr c8
     have c8b1 : (a0_1 != a0_2) = true := bne_iff_ne.mpr c8
     (first | rw [c8b0] | (simp only [i64_w, i32_w]; rw [c8b0]) | skip)
     replace H := Option.bind_eq_some_iff.mp H
     obtain ⟨t604, A100, H⟩ := H
     replace H : (if t604 = true then ((impl_inRange.f a0_5 0 200).bind fun t605 => (impl_MsgOk.j0 k (!t605) a0_0 a0_1 a0_2 a0_3 a0_4 a0_5 l0_6)) else (impl_MsgOk.j0 k true a0_0 a0_1 a0_2 a0_3 a0_4 a0_5 l0_6)) = some r := H
     have A10 := Aside0.mk A100
     clear A100
     by_cases c11 : t604 = true
     ·subst c11
      have H1 : ((impl_inRange.f a0_5 0 200).bind fun t605 => (impl_MsgOk.j0 k (!t605) a0_0 a0_1 a0_2 a0_3 a0_4 a0_5 l0_6)) = some r := by rw [if_pos rfl] at H; exact H
      clear H
      have H := H1
      clear H1
      replace H := Option.bind_eq_some_iff.mp H
      obtain ⟨t605, A120, H⟩ := H
      replace H : (impl_MsgOk.j0 k (!t605) a0_0 a0_1 a0_2 a0_3 a0_4 a0_5 l0_6) = some r := H
      have A12 := Aside0.mk A120
      clear A120
      have H' := Aside0.mk H
      clear H
      have hcz13_0 : w3.cell? ⟨gb601, 0, none⟩ = some (.int .i64 a0_0) := (blk_cell BK601.out 0).trans rfl
      have hcz13_1 : w3.cell? ⟨gb601, 1, none⟩ = some (.int .i64 a0_1) := (blk_cell BK601.out 1).trans rfl
      have hcz13_2 : w3.cell? ⟨gb601, 2, none⟩ = some (.int .i64 a0_2) := (blk_cell BK601.out 2).trans rfl
      have hcz13_3 : w3.cell? ⟨gb601, 3, none⟩ = some (.int .i64 a0_3) := (blk_cell BK601.out 3).trans rfl
      have hcz13_4 : w3.cell? ⟨gb601, 4, none⟩ = some (.string a0_4) := (blk_cell BK601.out 4).trans rfl
      have hcz13_5 : w3.cell? ⟨gb601, 5, none⟩ = some (.int .i64 a0_5) := (blk_cell BK601.out 5).trans rfl
      have hcz13_6 : w3.cell? ⟨gb601, 6, none⟩ = some (.slice A0_6 l0_6.length c0_6) := (blk_cell BK601.out 6).trans rfl
      have hfz13_0 := blk_frozen BK601.out 0
      have hfz13_1 := blk_frozen BK601.out 1
      have hfz13_2 := blk_frozen BK601.out 2
      have hfz13_3 := blk_frozen BK601.out 3
      have hfz13_4 := blk_frozen BK601.out 4
      have hfz13_5 := blk_frozen BK601.out 5
      have hfz13_6 := blk_frozen BK601.out 6
      go_wp2_with (first | ((with_reducible refine gate_callee (f := 141) rfl ?_); refine goesL_ (some 5) rfl rfl Try.func141 (by kernel_rfl) rfl #[.int .i64 a0_1] rfl (by (try simp only [List.map_toArray, List.map_cons, List.map_nil]); first | done | rfl | (simp only [List.length_drop, List.length_take]; rfl)) ?_; (with_reducible refine (impl_isId.calls a0_1 true _ A4.out).mono ?_); rintro e w' ⟨rfl, ⟨nd, rfl⟩⟩; refine ⟨_, rfl, ?_⟩) | (go_at_call 141; (with_reducible refine (impl_isId.calls a0_2 true _ A6.out).mono ?_); rintro e w' ⟨rfl, ⟨nd, rfl⟩⟩) | (go_at_call 119; (with_reducible refine (impl_HeadOk.calls a0_3 a0_4 true _ A10.out).mono ?_); rintro e w14 ⟨rfl, hb⟩; have n0_ := Aside0.mk (blk_below (g := gb601) (o := .cells #[.int .i64 a0_0, .int .i64 a0_1, .int .i64 a0_2, .int .i64 a0_3, .string a0_4, .int .i64 a0_5, .slice A0_6 l0_6.length c0_6] 33 (0, 0)) (by (with_reducible repeat (first | refine blk_drewN ?_ _ | refine blk_drew ?_ | refine blk_alloc ?_ _)); exact BK601.out) hb); have n1_ := Aside0.mk (below_step (by repeat (first | (with_reducible first | exact HB.out | apply below_alloc | apply pw_below_drewN | apply below_drew1 | refine below_set ?_ GE601.out) | exact HB.out)) hb); clear BK601; clear HB; have BK601 := n0_; have HB := n1_; clear n0_ n1_; (try clear hb); (try clear hb2); (try clear hk); (try clear hi); have hcz15_0 : w14.cell? ⟨gb601, 0, none⟩ = some (.int .i64 a0_0) := (blk_cell BK601.out 0).trans rfl; have hcz15_1 : w14.cell? ⟨gb601, 1, none⟩ = some (.int .i64 a0_1) := (blk_cell BK601.out 1).trans rfl; have hcz15_2 : w14.cell? ⟨gb601, 2, none⟩ = some (.int .i64 a0_2) := (blk_cell BK601.out 2).trans rfl; have hcz15_3 : w14.cell? ⟨gb601, 3, none⟩ = some (.int .i64 a0_3) := (blk_cell BK601.out 3).trans rfl; have hcz15_4 : w14.cell? ⟨gb601, 4, none⟩ = some (.string a0_4) := (blk_cell BK601.out 4).trans rfl; have hcz15_5 : w14.cell? ⟨gb601, 5, none⟩ = some (.int .i64 a0_5) := (blk_cell BK601.out 5).trans rfl; have hcz15_6 : w14.cell? ⟨gb601, 6, none⟩ = some (.slice A0_6 l0_6.length c0_6) := (blk_cell BK601.out 6).trans rfl; have hfz15_0 := blk_frozen BK601.out 0; have hfz15_1 := blk_frozen BK601.out 1; have hfz15_2 := blk_frozen BK601.out 2; have hfz15_3 := blk_frozen BK601.out 3; have hfz15_4 := blk_frozen BK601.out 4; have hfz15_5 := blk_frozen BK601.out 5; have hfz15_6 := blk_frozen BK601.out 6) | (go_at_call 93; (with_reducible refine (impl_inRange.calls a0_5 0 200 t605 _ A12.out).mono ?_); rintro e w' ⟨rfl, ⟨nd, rfl⟩⟩))
      go_meet
      case rel => exact ⟨_, (!t605), (by first | rfl | (simp; done) | (simp [*]; done)), H', ⟨by first | omega | exact Nat.le_refl _⟩, ⟨by (with_reducible repeat (first | refine blk_drewN ?_ _ | refine blk_drew ?_ | refine blk_alloc ?_ _)); exact BK601.out⟩, ⟨by repeat (first | (with_reducible first | exact HB.out | apply below_alloc | apply pw_below_drewN | apply below_drew1 | refine below_set ?_ GE601.out) | exact HB.out)⟩⟩
     ·replace c11 := Bool.eq_false_iff.mpr c11
      subst c11
      have H1 : (impl_MsgOk.j0 k true a0_0 a0_1 a0_2 a0_3 a0_4 a0_5 l0_6) = some r := by rw [if_neg (show ¬ (false = true) by decide)] at H; exact H
      clear H
      have H := H1
      clear H1
      have H' := Aside0.mk H
      clear H
      have hcz16_0 : w3.cell? ⟨gb601, 0, none⟩ = some (.int .i64 a0_0) := (blk_cell BK601.out 0).trans rfl
      have hcz16_1 : w3.cell? ⟨gb601, 1, none⟩ = some (.int .i64 a0_1) := (blk_cell BK601.out 1).trans rfl
      have hcz16_2 : w3.cell? ⟨gb601, 2, none⟩ = some (.int .i64 a0_2) := (blk_cell BK601.out 2).trans rfl
      have hcz16_3 : w3.cell? ⟨gb601, 3, none⟩ = some (.int .i64 a0_3) := (blk_cell BK601.out 3).trans rfl
      have hcz16_4 : w3.cell? ⟨gb601, 4, none⟩ = some (.string a0_4) := (blk_cell BK601.out 4).trans rfl
      have hcz16_5 : w3.cell? ⟨gb601, 5, none⟩ = some (.int .i64 a0_5) := (blk_cell BK601.out 5).trans rfl
      have hcz16_6 : w3.cell? ⟨gb601, 6, none⟩ = some (.slice A0_6 l0_6.length c0_6) := (blk_cell BK601.out 6).trans rfl
      have hfz16_0 := blk_frozen BK601.out 0
      have hfz16_1 := blk_frozen BK601.out 1
      have hfz16_2 := blk_frozen BK601.out 2
      have hfz16_3 := blk_frozen BK601.out 3
      have hfz16_4 := blk_frozen BK601.out 4
      have hfz16_5 := blk_frozen BK601.out 5
      have hfz16_6 := blk_frozen BK601.out 6
      go_wp2_with (first | ((with_reducible refine gate_callee (f := 141) rfl ?_); refine goesL_ (some 5) rfl rfl Try.func141 (by kernel_rfl) rfl #[.int .i64 a0_1] rfl (by (try simp only [List.map_toArray, List.map_cons, List.map_nil]); first | done | rfl | (simp only [List.length_drop, List.length_take]; rfl)) ?_; (with_reducible refine (impl_isId.calls a0_1 true _ A4.out).mono ?_); rintro e w' ⟨rfl, ⟨nd, rfl⟩⟩; refine ⟨_, rfl, ?_⟩) | (go_at_call 141; (with_reducible refine (impl_isId.calls a0_2 true _ A6.out).mono ?_); rintro e w' ⟨rfl, ⟨nd, rfl⟩⟩) | (go_at_call 119; (with_reducible refine (impl_HeadOk.calls a0_3 a0_4 false _ A10.out).mono ?_); rintro e w17 ⟨rfl, hb⟩; have n0_ := Aside0.mk (blk_below (g := gb601) (o := .cells #[.int .i64 a0_0, .int .i64 a0_1, .int .i64 a0_2, .int .i64 a0_3, .string a0_4, .int .i64 a0_5, .slice A0_6 l0_6.length c0_6] 33 (0, 0)) (by (with_reducible repeat (first | refine blk_drewN ?_ _ | refine blk_drew ?_ | refine blk_alloc ?_ _)); exact BK601.out) hb); have n1_ := Aside0.mk (below_step (by repeat (first | (with_reducible first | exact HB.out | apply below_alloc | apply pw_below_drewN | apply below_drew1 | refine below_set ?_ GE601.out) | exact HB.out)) hb); clear BK601; clear HB; have BK601 := n0_; have HB := n1_; clear n0_ n1_; (try clear hb); (try clear hb2); (try clear hk); (try clear hi)))
      go_meet
      case rel => exact ⟨_, (true), (by first | rfl | (simp; done) | (simp [*]; done)), H', ⟨by first | omega | exact Nat.le_refl _⟩, ⟨by (with_reducible repeat (first | refine blk_drewN ?_ _ | refine blk_drew ?_ | refine blk_alloc ?_ _)); exact BK601.out⟩, ⟨by repeat (first | (with_reducible first | exact HB.out | apply below_alloc | apply pw_below_drewN | apply below_drew1 | refine below_set ?_ GE601.out) | exact HB.out)⟩⟩
   ·replace c7 := Bool.eq_false_iff.mpr c7
    subst c7
    have H1 : (impl_MsgOk.j0 k true a0_0 a0_1 a0_2 a0_3 a0_4 a0_5 l0_6) = some r := by rw [if_neg (show ¬ (false = true) by decide)] at H; exact H
    clear H
    have H := H1
    clear H1
    have H' := Aside0.mk H
    clear H
    have hcz18_0 : w3.cell? ⟨gb601, 0, none⟩ = some (.int .i64 a0_0) := (blk_cell BK601.out 0).trans rfl
    have hcz18_1 : w3.cell? ⟨gb601, 1, none⟩ = some (.int .i64 a0_1) := (blk_cell BK601.out 1).trans rfl
    have hcz18_2 : w3.cell? ⟨gb601, 2, none⟩ = some (.int .i64 a0_2) := (blk_cell BK601.out 2).trans rfl
    have hcz18_3 : w3.cell? ⟨gb601, 3, none⟩ = some (.int .i64 a0_3) := (blk_cell BK601.out 3).trans rfl
    have hcz18_4 : w3.cell? ⟨gb601, 4, none⟩ = some (.string a0_4) := (blk_cell BK601.out 4).trans rfl
    have hcz18_5 : w3.cell? ⟨gb601, 5, none⟩ = some (.int .i64 a0_5) := (blk_cell BK601.out 5).trans rfl
    have hcz18_6 : w3.cell? ⟨gb601, 6, none⟩ = some (.slice A0_6 l0_6.length c0_6) := (blk_cell BK601.out 6).trans rfl
    have hfz18_0 := blk_frozen BK601.out 0
    have hfz18_1 := blk_frozen BK601.out 1
    have hfz18_2 := blk_frozen BK601.out 2
    have hfz18_3 := blk_frozen BK601.out 3
    have hfz18_4 := blk_frozen BK601.out 4
    have hfz18_5 := blk_frozen BK601.out 5
    have hfz18_6 := blk_frozen BK601.out 6
    go_wp2_with (first | ((with_reducible refine gate_callee (f := 141) rfl ?_); refine goesL_ (some 5) rfl rfl Try.func141 (by kernel_rfl) rfl #[.int .i64 a0_1] rfl (by (try simp only [List.map_toArray, List.map_cons, List.map_nil]); first | done | rfl | (simp only [List.length_drop, List.length_take]; rfl)) ?_; (with_reducible refine (impl_isId.calls a0_1 true _ A4.out).mono ?_); rintro e w' ⟨rfl, ⟨nd, rfl⟩⟩; refine ⟨_, rfl, ?_⟩) | (go_at_call 141; (with_reducible refine (impl_isId.calls a0_2 false _ A6.out).mono ?_); rintro e w' ⟨rfl, ⟨nd, rfl⟩⟩))
    go_meet
    case rel => exact ⟨_, (true), (by first | rfl | (simp; done) | (simp [*]; done)), H', ⟨by first | omega | exact Nat.le_refl _⟩, ⟨by (with_reducible repeat (first | refine blk_drewN ?_ _ | refine blk_drew ?_ | refine blk_alloc ?_ _)); exact BK601.out⟩, ⟨by repeat (first | (with_reducible first | exact HB.out | apply below_alloc | apply pw_below_drewN | apply below_drew1 | refine below_set ?_ GE601.out) | exact HB.out)⟩⟩
  ·replace c5 := Bool.eq_false_iff.mpr c5
   subst c5
   have H1 : (impl_MsgOk.j0 k true a0_0 a0_1 a0_2 a0_3 a0_4 a0_5 l0_6) = some r := by rw [if_neg (show ¬ (false = true) by decide)] at H; exact H
   clear H
   have H := H1
   clear H1
   have H' := Aside0.mk H
   clear H
   have hcz19_0 : w3.cell? ⟨gb601, 0, none⟩ = some (.int .i64 a0_0) := (blk_cell BK601.out 0).trans rfl
   have hcz19_1 : w3.cell? ⟨gb601, 1, none⟩ = some (.int .i64 a0_1) := (blk_cell BK601.out 1).trans rfl
   have hcz19_2 : w3.cell? ⟨gb601, 2, none⟩ = some (.int .i64 a0_2) := (blk_cell BK601.out 2).trans rfl
   have hcz19_3 : w3.cell? ⟨gb601, 3, none⟩ = some (.int .i64 a0_3) := (blk_cell BK601.out 3).trans rfl
   have hcz19_4 : w3.cell? ⟨gb601, 4, none⟩ = some (.string a0_4) := (blk_cell BK601.out 4).trans rfl
   have hcz19_5 : w3.cell? ⟨gb601, 5, none⟩ = some (.int .i64 a0_5) := (blk_cell BK601.out 5).trans rfl
   have hcz19_6 : w3.cell? ⟨gb601, 6, none⟩ = some (.slice A0_6 l0_6.length c0_6) := (blk_cell BK601.out 6).trans rfl
   have hfz19_0 := blk_frozen BK601.out 0
   have hfz19_1 := blk_frozen BK601.out 1
   have hfz19_2 := blk_frozen BK601.out 2
   have hfz19_3 := blk_frozen BK601.out 3
   have hfz19_4 := blk_frozen BK601.out 4
   have hfz19_5 := blk_frozen BK601.out 5
   have hfz19_6 := blk_frozen BK601.out 6
   go_wp2_with (first | ((with_reducible refine gate_callee (f := 141) rfl ?_); refine goesL_ (some 5) rfl rfl Try.func141 (by kernel_rfl) rfl #[.int .i64 a0_1] rfl (by (try simp only [List.map_toArray, List.map_cons, List.map_nil]); first | done | rfl | (simp only [List.length_drop, List.length_take]; rfl)) ?_; (with_reducible refine (impl_isId.calls a0_1 false _ A4.out).mono ?_); rintro e w' ⟨rfl, ⟨nd, rfl⟩⟩; refine ⟨_, rfl, ?_⟩))
   go_meet
   case rel => exact ⟨_, (true), (by first | rfl | (simp; done) | (simp [*]; done)), H', ⟨by first | omega | exact Nat.le_refl _⟩, ⟨by (with_reducible repeat (first | refine blk_drewN ?_ _ | refine blk_drew ?_ | refine blk_alloc ?_ _)); exact BK601.out⟩, ⟨by repeat (first | (with_reducible first | exact HB.out | apply below_alloc | apply pw_below_drewN | apply below_drew1 | refine below_set ?_ GE601.out) | exact HB.out)⟩⟩
 case rest =>
  clear HC2
  try clear c1
  try clear p2
  try clear c5
  try clear c7
  try clear c8
  try clear c8b0
  try clear c8b1
  try clear c11
  try clear c14
  try clear hcz13_0
  try clear hcz13_1
  try clear hcz13_2
  try clear hcz13_3
  try clear hcz13_4
  try clear hcz13_5
  try clear hcz13_6
  try clear hcz15_0
  try clear hcz15_1
  try clear hcz15_2
  try clear hcz15_3
  try clear hcz15_4
  try clear hcz15_5
  try clear hcz15_6
  try clear hcz16_0
  try clear hcz16_1
  try clear hcz16_2
  try clear hcz16_3
  try clear hcz16_4
  try clear hcz16_5
  try clear hcz16_6
  try clear hcz18_0
  try clear hcz18_1
  try clear hcz18_2
  try clear hcz18_3
  try clear hcz18_4
  try clear hcz18_5
  try clear hcz18_6
  try clear hcz19_0
  try clear hcz19_1
  try clear hcz19_2
  try clear hcz19_3
  try clear hcz19_4
  try clear hcz19_5
  try clear hcz19_6
  try clear hcz9_0
  try clear hcz9_1
  try clear hcz9_2
  try clear hcz9_3
  try clear hcz9_4
  try clear hcz9_5
  try clear hcz9_6
  try clear hfz13_0
  try clear hfz13_1
  try clear hfz13_2
  try clear hfz13_3
  try clear hfz13_4
  try clear hfz13_5
  try clear hfz13_6
  try clear hfz15_0
  try clear hfz15_1
  try clear hfz15_2
  try clear hfz15_3
  try clear hfz15_4
  try clear hfz15_5
  try clear hfz15_6
  try clear hfz16_0
  try clear hfz16_1
  try clear hfz16_2
  try clear hfz16_3
  try clear hfz16_4
  try clear hfz16_5
  try clear hfz16_6
  try clear hfz18_0
  try clear hfz18_1
  try clear hfz18_2
  try clear hfz18_3
  try clear hfz18_4
  try clear hfz18_5
  try clear hfz18_6
  try clear hfz19_0
  try clear hfz19_1
  try clear hfz19_2
  try clear hfz19_3
  try clear hfz19_4
  try clear hfz19_5
  try clear hfz19_6
  try clear hfz9_0
  try clear hfz9_1
  try clear hfz9_2
  try clear hfz9_3
  try clear hfz9_4
  try clear hfz9_5
  try clear hfz9_6
  obtain ⟨kq, x31_1, rfl, HA, HJ1, BK601, HB⟩ := hcut
  cases kq with
  | zero => exact absurd HA.out (by simp [impl_MsgOk.j0])
  | succ kj1 =>
   have H := HA.out
   clear HA
   simp only [impl_MsgOk.j0] at H
   by_cases c20 : x31_1 = true
   ·subst c20
    have H1 : (some false) = some r := by rw [if_pos rfl] at H; exact H
    clear H
    have H := H1
    clear H1
    obtain rfl := Option.some.inj H
    go_wp2
    go_ret
    exact ⟨by first | rfl | (simp [errW_none, errW_some] <;> rfl) | (simp [*, errW_none, errW_some] <;> rfl), by repeat (first | (with_reducible first | exact HB.out | apply below_alloc | apply pw_below_drewN | apply below_drew1 | refine below_set ?_ GE601.out) | exact HB.out)⟩
   ·replace c20 := Bool.eq_false_iff.mpr c20
    subst c20
    have H1 : (if a0_0 = 1 then (if a0_5 = 0 then (some ((l0_6.length : Int) == 0)) else (some false)) else (if a0_0 = 2 then (if a0_5 < a0_3 then (some ((l0_6.length : Int) == 0)) else (some false)) else (if a0_0 = 3 then (if a0_5 < a0_3 then (some ((l0_6.length : Int) == (wrap64 (a0_3 - a0_5)))) else (some false)) else (some false)))) = some r := by rw [if_neg (show ¬ (false = true) by decide)] at H; exact H
    clear H
    have H := H1
    clear H1
    by_cases c21 : a0_0 = 1
    ·rw [if_pos c21] at H
     have c21b0 : (a0_0 == 1) = true := beq_iff_eq.mpr c21
     have c21b1 : (a0_0 != 1) = false := bne_eq_false_iff_eq.mpr c21
     clear c21
     by_cases c22 : a0_5 = 0
     ·rw [if_pos c22] at H
      have c22b0 : (a0_5 == 0) = true := beq_iff_eq.mpr c22
      have c22b1 : (a0_5 != 0) = false := bne_eq_false_iff_eq.mpr c22
      clear c22
      obtain rfl := Option.some.inj H
      have hcz23_0 : wc.cell? ⟨gb601, 0, none⟩ = some (.int .i64 a0_0) := (blk_cell BK601.out 0).trans rfl
      have hcz23_1 : wc.cell? ⟨gb601, 1, none⟩ = some (.int .i64 a0_1) := (blk_cell BK601.out 1).trans rfl
      have hcz23_2 : wc.cell? ⟨gb601, 2, none⟩ = some (.int .i64 a0_2) := (blk_cell BK601.out 2).trans rfl
      have hcz23_3 : wc.cell? ⟨gb601, 3, none⟩ = some (.int .i64 a0_3) := (blk_cell BK601.out 3).trans rfl
      have hcz23_4 : wc.cell? ⟨gb601, 4, none⟩ = some (.string a0_4) := (blk_cell BK601.out 4).trans rfl
      have hcz23_5 : wc.cell? ⟨gb601, 5, none⟩ = some (.int .i64 a0_5) := (blk_cell BK601.out 5).trans rfl
      have hcz23_6 : wc.cell? ⟨gb601, 6, none⟩ = some (.slice A0_6 l0_6.length c0_6) := (blk_cell BK601.out 6).trans rfl
      have hfz23_0 := blk_frozen BK601.out 0
      have hfz23_1 := blk_frozen BK601.out 1
      have hfz23_2 := blk_frozen BK601.out 2
      have hfz23_3 := blk_frozen BK601.out 3
      have hfz23_4 := blk_frozen BK601.out 4
      have hfz23_5 := blk_frozen BK601.out 5
      have hfz23_6 := blk_frozen BK601.out 6
      go_wp2
      go_ret
      exact ⟨by first | rfl | (simp [errW_none, errW_some] <;> rfl) | (simp [*, errW_none, errW_some] <;> rfl), by repeat (first | (with_reducible first | exact HB.out | apply below_alloc | apply pw_below_drewN | apply below_drew1 | refine below_set ?_ GE601.out) | exact HB.out)⟩
     ·rw [if_neg c22] at H
      have c22b0 : (a0_5 == 0) = false := beq_eq_false_iff_ne.mpr c22
      have c22b1 : (a0_5 != 0) = true := bne_iff_ne.mpr c22
      obtain rfl := Option.some.inj H
      have hcz24_0 : wc.cell? ⟨gb601, 0, none⟩ = some (.int .i64 a0_0) := (blk_cell BK601.out 0).trans rfl
      have hcz24_1 : wc.cell? ⟨gb601, 1, none⟩ = some (.int .i64 a0_1) := (blk_cell BK601.out 1).trans rfl
      have hcz24_2 : wc.cell? ⟨gb601, 2, none⟩ = some (.int .i64 a0_2) := (blk_cell BK601.out 2).trans rfl
      have hcz24_3 : wc.cell? ⟨gb601, 3, none⟩ = some (.int .i64 a0_3) := (blk_cell BK601.out 3).trans rfl
      have hcz24_4 : wc.cell? ⟨gb601, 4, none⟩ = some (.string a0_4) := (blk_cell BK601.out 4).trans rfl
      have hcz24_5 : wc.cell? ⟨gb601, 5, none⟩ = some (.int .i64 a0_5) := (blk_cell BK601.out 5).trans rfl
      have hcz24_6 : wc.cell? ⟨gb601, 6, none⟩ = some (.slice A0_6 l0_6.length c0_6) := (blk_cell BK601.out 6).trans rfl
      have hfz24_0 := blk_frozen BK601.out 0
      have hfz24_1 := blk_frozen BK601.out 1
      have hfz24_2 := blk_frozen BK601.out 2
      have hfz24_3 := blk_frozen BK601.out 3
      have hfz24_4 := blk_frozen BK601.out 4
      have hfz24_5 := blk_frozen BK601.out 5
      have hfz24_6 := blk_frozen BK601.out 6
      go_wp2
      go_ret
      exact ⟨by first | rfl | (simp [errW_none, errW_some] <;> rfl) | (simp [*, errW_none, errW_some] <;> rfl), by repeat (first | (with_reducible first | exact HB.out | apply below_alloc | apply pw_below_drewN | apply below_drew1 | refine below_set ?_ GE601.out) | exact HB.out)⟩
    ·rw [if_neg c21] at H
     have c21b0 : (a0_0 == 1) = false := beq_eq_false_iff_ne.mpr c21
     have c21b1 : (a0_0 != 1) = true := bne_iff_ne.mpr c21
     by_cases c25 : a0_0 = 2
     ·rw [if_pos c25] at H
      have c25b0 : (a0_0 == 2) = true := beq_iff_eq.mpr c25
      have c25b1 : (a0_0 != 2) = false := bne_eq_false_iff_eq.mpr c25
      clear c25
      by_cases c26 : a0_5 < a0_3
      ·rw [if_pos c26] at H
       have c26b0 : decide (a0_5 < a0_3) = true := decide_eq_true c26
       clear c26
       obtain rfl := Option.some.inj H
       have hcz27_0 : wc.cell? ⟨gb601, 0, none⟩ = some (.int .i64 a0_0) := (blk_cell BK601.out 0).trans rfl
       have hcz27_1 : wc.cell? ⟨gb601, 1, none⟩ = some (.int .i64 a0_1) := (blk_cell BK601.out 1).trans rfl
       have hcz27_2 : wc.cell? ⟨gb601, 2, none⟩ = some (.int .i64 a0_2) := (blk_cell BK601.out 2).trans rfl
       have hcz27_3 : wc.cell? ⟨gb601, 3, none⟩ = some (.int .i64 a0_3) := (blk_cell BK601.out 3).trans rfl
       have hcz27_4 : wc.cell? ⟨gb601, 4, none⟩ = some (.string a0_4) := (blk_cell BK601.out 4).trans rfl
       have hcz27_5 : wc.cell? ⟨gb601, 5, none⟩ = some (.int .i64 a0_5) := (blk_cell BK601.out 5).trans rfl
       have hcz27_6 : wc.cell? ⟨gb601, 6, none⟩ = some (.slice A0_6 l0_6.length c0_6) := (blk_cell BK601.out 6).trans rfl
       have hfz27_0 := blk_frozen BK601.out 0
       have hfz27_1 := blk_frozen BK601.out 1
       have hfz27_2 := blk_frozen BK601.out 2
       have hfz27_3 := blk_frozen BK601.out 3
       have hfz27_4 := blk_frozen BK601.out 4
       have hfz27_5 := blk_frozen BK601.out 5
       have hfz27_6 := blk_frozen BK601.out 6
       go_wp2
       go_ret
       exact ⟨by first | rfl | (simp [errW_none, errW_some] <;> rfl) | (simp [*, errW_none, errW_some] <;> rfl), by repeat (first | (with_reducible first | exact HB.out | apply below_alloc | apply pw_below_drewN | apply below_drew1 | refine below_set ?_ GE601.out) | exact HB.out)⟩
      ·rw [if_neg c26] at H
       have c26b0 : decide (a0_5 < a0_3) = false := decide_eq_false c26
       clear c26
       obtain rfl := Option.some.inj H
       have hcz28_0 : wc.cell? ⟨gb601, 0, none⟩ = some (.int .i64 a0_0) := (blk_cell BK601.out 0).trans rfl
       have hcz28_1 : wc.cell? ⟨gb601, 1, none⟩ = some (.int .i64 a0_1) := (blk_cell BK601.out 1).trans rfl
       have hcz28_2 : wc.cell? ⟨gb601, 2, none⟩ = some (.int .i64 a0_2) := (blk_cell BK601.out 2).trans rfl
       have hcz28_3 : wc.cell? ⟨gb601, 3, none⟩ = some (.int .i64 a0_3) := (blk_cell BK601.out 3).trans rfl
       have hcz28_4 : wc.cell? ⟨gb601, 4, none⟩ = some (.string a0_4) := (blk_cell BK601.out 4).trans rfl
       have hcz28_5 : wc.cell? ⟨gb601, 5, none⟩ = some (.int .i64 a0_5) := (blk_cell BK601.out 5).trans rfl
       have hcz28_6 : wc.cell? ⟨gb601, 6, none⟩ = some (.slice A0_6 l0_6.length c0_6) := (blk_cell BK601.out 6).trans rfl
       have hfz28_0 := blk_frozen BK601.out 0
       have hfz28_1 := blk_frozen BK601.out 1
       have hfz28_2 := blk_frozen BK601.out 2
       have hfz28_3 := blk_frozen BK601.out 3
       have hfz28_4 := blk_frozen BK601.out 4
       have hfz28_5 := blk_frozen BK601.out 5
       have hfz28_6 := blk_frozen BK601.out 6
       go_wp2
       go_ret
       exact ⟨by first | rfl | (simp [errW_none, errW_some] <;> rfl) | (simp [*, errW_none, errW_some] <;> rfl), by repeat (first | (with_reducible first | exact HB.out | apply below_alloc | apply pw_below_drewN | apply below_drew1 | refine below_set ?_ GE601.out) | exact HB.out)⟩
     ·rw [if_neg c25] at H
      have c25b0 : (a0_0 == 2) = false := beq_eq_false_iff_ne.mpr c25
      have c25b1 : (a0_0 != 2) = true := bne_iff_ne.mpr c25
      by_cases c29 : a0_0 = 3
      ·rw [if_pos c29] at H
       have c29b0 : (a0_0 == 3) = true := beq_iff_eq.mpr c29
       have c29b1 : (a0_0 != 3) = false := bne_eq_false_iff_eq.mpr c29
       clear c29
       by_cases c30 : a0_5 < a0_3
       ·rw [if_pos c30] at H
        have c30b0 : decide (a0_5 < a0_3) = true := decide_eq_true c30
        clear c30
        obtain rfl := Option.some.inj H
        have hcz31_0 : wc.cell? ⟨gb601, 0, none⟩ = some (.int .i64 a0_0) := (blk_cell BK601.out 0).trans rfl
        have hcz31_1 : wc.cell? ⟨gb601, 1, none⟩ = some (.int .i64 a0_1) := (blk_cell BK601.out 1).trans rfl
        have hcz31_2 : wc.cell? ⟨gb601, 2, none⟩ = some (.int .i64 a0_2) := (blk_cell BK601.out 2).trans rfl
        have hcz31_3 : wc.cell? ⟨gb601, 3, none⟩ = some (.int .i64 a0_3) := (blk_cell BK601.out 3).trans rfl
        have hcz31_4 : wc.cell? ⟨gb601, 4, none⟩ = some (.string a0_4) := (blk_cell BK601.out 4).trans rfl
        have hcz31_5 : wc.cell? ⟨gb601, 5, none⟩ = some (.int .i64 a0_5) := (blk_cell BK601.out 5).trans rfl
        have hcz31_6 : wc.cell? ⟨gb601, 6, none⟩ = some (.slice A0_6 l0_6.length c0_6) := (blk_cell BK601.out 6).trans rfl
        have hfz31_0 := blk_frozen BK601.out 0
        have hfz31_1 := blk_frozen BK601.out 1
        have hfz31_2 := blk_frozen BK601.out 2
        have hfz31_3 := blk_frozen BK601.out 3
        have hfz31_4 := blk_frozen BK601.out 4
        have hfz31_5 := blk_frozen BK601.out 5
        have hfz31_6 := blk_frozen BK601.out 6
        go_wp2
        go_ret
        exact ⟨by first | rfl | (simp [errW_none, errW_some] <;> rfl) | (simp [*, errW_none, errW_some] <;> rfl), by repeat (first | (with_reducible first | exact HB.out | apply below_alloc | apply pw_below_drewN | apply below_drew1 | refine below_set ?_ GE601.out) | exact HB.out)⟩
       ·rw [if_neg c30] at H
        have c30b0 : decide (a0_5 < a0_3) = false := decide_eq_false c30
        clear c30
        obtain rfl := Option.some.inj H
        have hcz32_0 : wc.cell? ⟨gb601, 0, none⟩ = some (.int .i64 a0_0) := (blk_cell BK601.out 0).trans rfl
        have hcz32_1 : wc.cell? ⟨gb601, 1, none⟩ = some (.int .i64 a0_1) := (blk_cell BK601.out 1).trans rfl
        have hcz32_2 : wc.cell? ⟨gb601, 2, none⟩ = some (.int .i64 a0_2) := (blk_cell BK601.out 2).trans rfl
        have hcz32_3 : wc.cell? ⟨gb601, 3, none⟩ = some (.int .i64 a0_3) := (blk_cell BK601.out 3).trans rfl
        have hcz32_4 : wc.cell? ⟨gb601, 4, none⟩ = some (.string a0_4) := (blk_cell BK601.out 4).trans rfl
        have hcz32_5 : wc.cell? ⟨gb601, 5, none⟩ = some (.int .i64 a0_5) := (blk_cell BK601.out 5).trans rfl
        have hcz32_6 : wc.cell? ⟨gb601, 6, none⟩ = some (.slice A0_6 l0_6.length c0_6) := (blk_cell BK601.out 6).trans rfl
        have hfz32_0 := blk_frozen BK601.out 0
        have hfz32_1 := blk_frozen BK601.out 1
        have hfz32_2 := blk_frozen BK601.out 2
        have hfz32_3 := blk_frozen BK601.out 3
        have hfz32_4 := blk_frozen BK601.out 4
        have hfz32_5 := blk_frozen BK601.out 5
        have hfz32_6 := blk_frozen BK601.out 6
        go_wp2
        go_ret
        exact ⟨by first | rfl | (simp [errW_none, errW_some] <;> rfl) | (simp [*, errW_none, errW_some] <;> rfl), by repeat (first | (with_reducible first | exact HB.out | apply below_alloc | apply pw_below_drewN | apply below_drew1 | refine below_set ?_ GE601.out) | exact HB.out)⟩
      ·rw [if_neg c29] at H
       have c29b0 : (a0_0 == 3) = false := beq_eq_false_iff_ne.mpr c29
       have c29b1 : (a0_0 != 3) = true := bne_iff_ne.mpr c29
       obtain rfl := Option.some.inj H
       have hcz33_0 : wc.cell? ⟨gb601, 0, none⟩ = some (.int .i64 a0_0) := (blk_cell BK601.out 0).trans rfl
       have hcz33_1 : wc.cell? ⟨gb601, 1, none⟩ = some (.int .i64 a0_1) := (blk_cell BK601.out 1).trans rfl
       have hcz33_2 : wc.cell? ⟨gb601, 2, none⟩ = some (.int .i64 a0_2) := (blk_cell BK601.out 2).trans rfl
       have hcz33_3 : wc.cell? ⟨gb601, 3, none⟩ = some (.int .i64 a0_3) := (blk_cell BK601.out 3).trans rfl
       have hcz33_4 : wc.cell? ⟨gb601, 4, none⟩ = some (.string a0_4) := (blk_cell BK601.out 4).trans rfl
       have hcz33_5 : wc.cell? ⟨gb601, 5, none⟩ = some (.int .i64 a0_5) := (blk_cell BK601.out 5).trans rfl
       have hcz33_6 : wc.cell? ⟨gb601, 6, none⟩ = some (.slice A0_6 l0_6.length c0_6) := (blk_cell BK601.out 6).trans rfl
       have hfz33_0 := blk_frozen BK601.out 0
       have hfz33_1 := blk_frozen BK601.out 1
       have hfz33_2 := blk_frozen BK601.out 2
       have hfz33_3 := blk_frozen BK601.out 3
       have hfz33_4 := blk_frozen BK601.out 4
       have hfz33_5 := blk_frozen BK601.out 5
       have hfz33_6 := blk_frozen BK601.out 6
       go_wp2
       go_ret
       exact ⟨by first | rfl | (simp [errW_none, errW_some] <;> rfl) | (simp [*, errW_none, errW_some] <;> rfl), by repeat (first | (with_reducible first | exact HB.out | apply below_alloc | apply pw_below_drewN | apply below_drew1 | refine below_set ?_ GE601.out) | exact HB.out)⟩

end Go.Proofs.Ytcogimnpffnanaa.Q
end

section
/- The program's PutMsg: the bytes of a message that is right. -/
namespace Go.Proofs.Ytcogimnpffnanaa.Q
open Go.RowKit Go.Proofs.YtcogimnpffnanaaW.PrintWords Go.Proofs.YtcogimnpffnanaaW.PrintLast Go.Proofs.YtcogimnpffnanaaW.PrintMore
set_option linter.unusedVariables false
set_option linter.unusedSimpArgs false

def impl_PutMsg.f (k : Nat) (a0 a1 a2 a3 : Int) (a4 : ByteArray) (a5 : Int) (l6 : List ByteArray) : Option (List Int) := (impl_MsgOk.f k a0 a1 a2 a3 a4 a5 l6).bind fun t => (if t = true then ((impl_putNum.f k [] a0).bind fun b1 => ((impl_putNum.f k b1 a1).bind fun b2 => ((impl_putNum.f k b2 a2).bind fun b3 => ((impl_putNum.f k b3 a3).bind fun b4 => ((impl_putText.f k b4 a4).bind fun b5 => ((impl_putNum.f k b5 a5).bind fun b6 => (impl_putTexts.f k b6 l6))))))) else (some ([] : List Int)))
theorem impl_PutMsg.mono : ∀ a0 a1 a2 a3 a4 a5 a6 k, LeO (impl_PutMsg.f k a0 a1 a2 a3 a4 a5 a6) (impl_PutMsg.f (k + 1) a0 a1 a2 a3 a4 a5 a6) := by
 intro a0 a1 a2 a3 a4 a5 a6 k
 unfold impl_PutMsg.f
 repeat' first
   | (with_reducible exact impl_MsgOk.mono _ _ _ _ _ _ _ _)
   | (with_reducible exact impl_putNum.mono _ _ _)
   | (with_reducible exact impl_putText.mono _ _ _)
   | (with_reducible exact impl_putTexts.mono _ _ _)
   | (with_reducible exact LeO.refl _)
   | (with_reducible refine LeO.ite ?_ ?_)
   | (with_reducible refine LeO.bind ?_ (fun _ => ?_))
set_option maxRecDepth 100000 in
@[local go_sem] theorem run_index_m0 (v0 v1 v2 v3 : Int) (w : World) : (Instr.index 121 (.agg #[.int .i64 v0, .int .i64 v1, .int .i64 v2, .int .i64 v3]) (.int .i64 0)).run Try.prog w = .ok (.int .i64 v0) w := by
 simp [Instr.index, asIntOf, run_underlying Try.underlying121, go_sem]
set_option maxRecDepth 100000 in
@[local go_sem] theorem run_index_m1 (v0 v1 v2 v3 : Int) (w : World) : (Instr.index 121 (.agg #[.int .i64 v0, .int .i64 v1, .int .i64 v2, .int .i64 v3]) (.int .i64 1)).run Try.prog w = .ok (.int .i64 v1) w := by
 simp [Instr.index, asIntOf, run_underlying Try.underlying121, go_sem]
set_option maxRecDepth 100000 in
@[local go_sem] theorem run_index_m2 (v0 v1 v2 v3 : Int) (w : World) : (Instr.index 121 (.agg #[.int .i64 v0, .int .i64 v1, .int .i64 v2, .int .i64 v3]) (.int .i64 2)).run Try.prog w = .ok (.int .i64 v2) w := by
 simp [Instr.index, asIntOf, run_underlying Try.underlying121, go_sem]
set_option maxRecDepth 100000 in
@[local go_sem] theorem run_index_m3 (v0 v1 v2 v3 : Int) (w : World) : (Instr.index 121 (.agg #[.int .i64 v0, .int .i64 v1, .int .i64 v2, .int .i64 v3]) (.int .i64 3)).run Try.prog w = .ok (.int .i64 v3) w := by
 simp [Instr.index, asIntOf, run_underlying Try.underlying121, go_sem]
set_option maxHeartbeats 8000000 in
set_option maxRecDepth 100000 in
theorem impl_PutMsg.calls (k : Nat) (a0 a1 a2 a3 : Int) (a4 : ByteArray) (a5 : Int) (A6 : Option Addr) (c6 : Nat) (l6 : List ByteArray) (r : List Int) (w : World) (hr6 : Kd.C Kd.string w A6 l6.length l6) (hc6 : l6.length ≤ c6) (h : impl_PutMsg.f k a0 a1 a2 a3 a4 a5 l6 = some r) :
  Calls Try.prog 20 #[.agg #[.int .i64 a0, .int .i64 a1, .int .i64 a2, .int .i64 a3, .string a4, .int .i64 a5, .slice A6 l6.length c6]] w fun e w' => ∃ v0_ : Value, e = .returned (v0_) ∧ Kd.R (Kd.int .u8) 5 w' w.heap.size (fun _ => True) v0_ r ∧ Below w.heap.size w w' := by
 have hu33 := Try.underlying33
 have hu31 := Try.underlying31
 have HR := Aside0.mk hr6
 have HC := Aside0.mk hc6
 have HB := Aside0.mk (Below.refl w.heap.size w)
 unfold impl_PutMsg.f at h
 obtain ⟨t, hm, h⟩ := Option.bind_eq_some_iff.mp h
 have HM := Aside0.mk hm
 clear hm hr6 hc6
 cases t with
 | false =>
  rw [if_neg (by decide)] at h
  obtain rfl := Option.some.inj h
  go_enter Try.func20, Try.ntmps20
  go_wp2_with (first | ((with_reducible refine gate_dst (N := 1) rfl ?_); refine box_event ?hg (N := 1) ?hd (cs := #[.int .i64 a0, .int .i64 a1, .int .i64 a2, .int .i64 a3, .string a4, .int .i64 a5, .slice A6 l6.length c6]) (t := 33) ?hr ?_; (case hd => rfl); (case hg => rfl); (case hr => first | (go_simp; done) | (go_simp; rfl)); intro gb hg w1 hbox hb; have HG := Aside0.mk hg; have BK1 := Aside0.mk hbox; have HB1 := Aside0.mk (below_step HB.out hb); have HR1 := Aside0.mk (Kd.C_below HR.out hb); have hcz_0 : w1.cell? ⟨gb, 0, none⟩ = some (.int .i64 a0) := (blk_cell BK1.out 0).trans rfl; have hcz_1 : w1.cell? ⟨gb, 1, none⟩ = some (.int .i64 a1) := (blk_cell BK1.out 1).trans rfl; have hcz_2 : w1.cell? ⟨gb, 2, none⟩ = some (.int .i64 a2) := (blk_cell BK1.out 2).trans rfl; have hcz_3 : w1.cell? ⟨gb, 3, none⟩ = some (.int .i64 a3) := (blk_cell BK1.out 3).trans rfl; have hcz_4 : w1.cell? ⟨gb, 4, none⟩ = some (.string a4) := (blk_cell BK1.out 4).trans rfl; have hcz_5 : w1.cell? ⟨gb, 5, none⟩ = some (.int .i64 a5) := (blk_cell BK1.out 5).trans rfl; have hcz_6 : w1.cell? ⟨gb, 6, none⟩ = some (.slice A6 l6.length c6) := (blk_cell BK1.out 6).trans rfl; clear hg hbox hb) | ((with_reducible refine gate_callee (f := 74) rfl ?_); refine goesL_ (some 7) rfl rfl Try.func74 (by kernel_rfl) rfl #[.agg #[.int .i64 a0, .int .i64 a1, .int .i64 a2, .int .i64 a3, .string a4, .int .i64 a5, .slice A6 l6.length c6]] rfl (by (try simp only [List.map_toArray, List.map_cons, List.map_nil]); first | done | rfl) ?_; (with_reducible refine (impl_MsgOk.calls k a0 a1 a2 a3 a4 a5 A6 c6 l6 false w1 HR1.out HC.out HM.out).mono ?_); rintro e w2 ⟨rfl, hb⟩; refine ⟨_, rfl, ?_⟩; have BK2 := Aside0.mk (blk_below BK1.out hb); have HB2 := Aside0.mk (below_step HB1.out hb); clear hb; clear hcz_0 hcz_1 hcz_2 hcz_3 hcz_4 hcz_5 hcz_6; have hcy_0 : w2.cell? ⟨gb, 0, none⟩ = some (.int .i64 a0) := (blk_cell BK2.out 0).trans rfl; have hcy_1 : w2.cell? ⟨gb, 1, none⟩ = some (.int .i64 a1) := (blk_cell BK2.out 1).trans rfl; have hcy_2 : w2.cell? ⟨gb, 2, none⟩ = some (.int .i64 a2) := (blk_cell BK2.out 2).trans rfl; have hcy_3 : w2.cell? ⟨gb, 3, none⟩ = some (.int .i64 a3) := (blk_cell BK2.out 3).trans rfl))
  go_ret
  exact ⟨_, rfl, Kd.R_nil _ _ _ _ _, HB2.out⟩
 | true =>
  rw [if_pos rfl] at h
  obtain ⟨b1, h1, h⟩ := Option.bind_eq_some_iff.mp h
  have H1 := Aside0.mk h1
  obtain ⟨b2, h2, h⟩ := Option.bind_eq_some_iff.mp h
  have H2 := Aside0.mk h2
  obtain ⟨b3, h3, h⟩ := Option.bind_eq_some_iff.mp h
  have H3 := Aside0.mk h3
  obtain ⟨b4, h4, h⟩ := Option.bind_eq_some_iff.mp h
  have H4 := Aside0.mk h4
  obtain ⟨b5, h5, h⟩ := Option.bind_eq_some_iff.mp h
  have H5 := Aside0.mk h5
  obtain ⟨b6, h6, h⟩ := Option.bind_eq_some_iff.mp h
  have H6 := Aside0.mk h6
  have H7 := Aside0.mk h
  clear h h1 h2 h3 h4 h5 h6
  go_enter Try.func20, Try.ntmps20
  go_wp2_with (first | ((with_reducible refine gate_dst (N := 1) rfl ?_); refine box_event ?hg (N := 1) ?hd (cs := #[.int .i64 a0, .int .i64 a1, .int .i64 a2, .int .i64 a3, .string a4, .int .i64 a5, .slice A6 l6.length c6]) (t := 33) ?hr ?_; (case hd => rfl); (case hg => rfl); (case hr => first | (go_simp; done) | (go_simp; rfl)); intro gb hg w1 hbox hb; have HG := Aside0.mk hg; have BK1 := Aside0.mk hbox; have HB1 := Aside0.mk (below_step HB.out hb); have HR1 := Aside0.mk (Kd.C_below HR.out hb); have hcz_0 : w1.cell? ⟨gb, 0, none⟩ = some (.int .i64 a0) := (blk_cell BK1.out 0).trans rfl; have hcz_1 : w1.cell? ⟨gb, 1, none⟩ = some (.int .i64 a1) := (blk_cell BK1.out 1).trans rfl; have hcz_2 : w1.cell? ⟨gb, 2, none⟩ = some (.int .i64 a2) := (blk_cell BK1.out 2).trans rfl; have hcz_3 : w1.cell? ⟨gb, 3, none⟩ = some (.int .i64 a3) := (blk_cell BK1.out 3).trans rfl; have hcz_4 : w1.cell? ⟨gb, 4, none⟩ = some (.string a4) := (blk_cell BK1.out 4).trans rfl; have hcz_5 : w1.cell? ⟨gb, 5, none⟩ = some (.int .i64 a5) := (blk_cell BK1.out 5).trans rfl; have hcz_6 : w1.cell? ⟨gb, 6, none⟩ = some (.slice A6 l6.length c6) := (blk_cell BK1.out 6).trans rfl; clear hg hbox hb) | ((with_reducible refine gate_callee (f := 74) rfl ?_); refine goesL_ (some 7) rfl rfl Try.func74 (by kernel_rfl) rfl #[.agg #[.int .i64 a0, .int .i64 a1, .int .i64 a2, .int .i64 a3, .string a4, .int .i64 a5, .slice A6 l6.length c6]] rfl (by (try simp only [List.map_toArray, List.map_cons, List.map_nil]); first | done | rfl) ?_; (with_reducible refine (impl_MsgOk.calls k a0 a1 a2 a3 a4 a5 A6 c6 l6 true w1 HR1.out HC.out HM.out).mono ?_); rintro e w2 ⟨rfl, hb⟩; refine ⟨_, rfl, ?_⟩; have BK2 := Aside0.mk (blk_below BK1.out hb); have HB2 := Aside0.mk (below_step HB1.out hb); clear hb; clear hcz_0 hcz_1 hcz_2 hcz_3 hcz_4 hcz_5 hcz_6; have hcy_0 : w2.cell? ⟨gb, 0, none⟩ = some (.int .i64 a0) := (blk_cell BK2.out 0).trans rfl; have hcy_1 : w2.cell? ⟨gb, 1, none⟩ = some (.int .i64 a1) := (blk_cell BK2.out 1).trans rfl; have hcy_2 : w2.cell? ⟨gb, 2, none⟩ = some (.int .i64 a2) := (blk_cell BK2.out 2).trans rfl; have hcy_3 : w2.cell? ⟨gb, 3, none⟩ = some (.int .i64 a3) := (blk_cell BK2.out 3).trans rfl))
  clear hcy_0 hcy_1 hcy_2 hcy_3
  go_loopg [3, 5, 19] 4 (fun kq v3 v5 v19 w' => ∃ (j : Int) (xs : List Int), v19 = .int .i64 j ∧ ((kq = 4 ∧ j = 0 ∧ [] = xs) ∨ (kq = 3 ∧ j = 1 ∧ b1 = xs) ∨ (kq = 2 ∧ j = 2 ∧ b2 = xs) ∨ (kq = 1 ∧ j = 3 ∧ b3 = xs) ∨ (kq = 0 ∧ j = 4 ∧ b4 = xs)) ∧ Aside0 (Kd.R (Kd.int .u8) 5 w' w2.heap.size (fun k_ => w2.heap.size ≤ k_) v3 xs) ∧ Aside0 (Below w2.heap.size w2 w'))
  case atStart => exact ⟨0, [], rfl, .inl ⟨rfl, rfl, rfl⟩, ⟨Kd.R_nil _ _ _ _ _⟩, ⟨Below.refl _ _⟩⟩
  case round =>
   obtain ⟨j, xs, rfl, hj, HO, HBL⟩ := hrel
   rcases hj with ⟨rfl, rfl, rfl⟩ | ⟨rfl, rfl, rfl⟩ | ⟨rfl, rfl, rfl⟩ | ⟨rfl, rfl, rfl⟩ | ⟨rfl, rfl, rfl⟩
   ·go_wp2_with ((with_reducible refine gate_callee (f := 98) rfl ?_); refine goesL_ (some 24) rfl rfl Try.func98 (by kernel_rfl) rfl #[u3, .int .i64 a0] rfl (by (try simp only [List.map_toArray, List.map_cons, List.map_nil]); first | done | rfl) ?_; (with_reducible refine (impl_putNum.calls k (fun k_ => w2.heap.size ≤ k_) u3 [] a0 b1 w2 wr HBL.out HO.out H1.out).mono ?_); rintro e w5 ⟨u5, rfl, ho5, hb5, hk5⟩; refine ⟨_, rfl, ?_⟩; have HO5 := Aside0.mk (Kd.R_mono ho5 (fun k_ hk_ => Or.elim hk_ id (fun hn_ => Nat.le_trans HBL.out.size hn_))); have HB5 := Aside0.mk hb5; clear ho5 hb5 hk5)
    go_roundg 3
    case measure => omega
    case rel => exact ⟨1, b1, by first | rfl | (simp; done), .inr (.inl ⟨rfl, rfl, rfl⟩), HO5, HB5⟩
   ·go_wp2_with ((with_reducible refine gate_callee (f := 98) rfl ?_); refine goesL_ (some 24) rfl rfl Try.func98 (by kernel_rfl) rfl #[u3, .int .i64 a1] rfl (by (try simp only [List.map_toArray, List.map_cons, List.map_nil]); first | done | rfl) ?_; (with_reducible refine (impl_putNum.calls k (fun k_ => w2.heap.size ≤ k_) u3 b1 a1 b2 w2 wr HBL.out HO.out H2.out).mono ?_); rintro e w5 ⟨u5, rfl, ho5, hb5, hk5⟩; refine ⟨_, rfl, ?_⟩; have HO5 := Aside0.mk (Kd.R_mono ho5 (fun k_ hk_ => Or.elim hk_ id (fun hn_ => Nat.le_trans HBL.out.size hn_))); have HB5 := Aside0.mk hb5; clear ho5 hb5 hk5)
    go_roundg 2
    case measure => omega
    case rel => exact ⟨2, b2, by first | rfl | (simp; done), .inr (.inr (.inl ⟨rfl, rfl, rfl⟩)), HO5, HB5⟩
   ·go_wp2_with ((with_reducible refine gate_callee (f := 98) rfl ?_); refine goesL_ (some 24) rfl rfl Try.func98 (by kernel_rfl) rfl #[u3, .int .i64 a2] rfl (by (try simp only [List.map_toArray, List.map_cons, List.map_nil]); first | done | rfl) ?_; (with_reducible refine (impl_putNum.calls k (fun k_ => w2.heap.size ≤ k_) u3 b2 a2 b3 w2 wr HBL.out HO.out H3.out).mono ?_); rintro e w5 ⟨u5, rfl, ho5, hb5, hk5⟩; refine ⟨_, rfl, ?_⟩; have HO5 := Aside0.mk (Kd.R_mono ho5 (fun k_ hk_ => Or.elim hk_ id (fun hn_ => Nat.le_trans HBL.out.size hn_))); have HB5 := Aside0.mk hb5; clear ho5 hb5 hk5)
    go_roundg 1
    case measure => omega
    case rel => exact ⟨3, b3, by first | rfl | (simp; done), .inr (.inr (.inr (.inl ⟨rfl, rfl, rfl⟩))), HO5, HB5⟩
   ·go_wp2_with ((with_reducible refine gate_callee (f := 98) rfl ?_); refine goesL_ (some 24) rfl rfl Try.func98 (by kernel_rfl) rfl #[u3, .int .i64 a3] rfl (by (try simp only [List.map_toArray, List.map_cons, List.map_nil]); first | done | rfl) ?_; (with_reducible refine (impl_putNum.calls k (fun k_ => w2.heap.size ≤ k_) u3 b3 a3 b4 w2 wr HBL.out HO.out H4.out).mono ?_); rintro e w5 ⟨u5, rfl, ho5, hb5, hk5⟩; refine ⟨_, rfl, ?_⟩; have HO5 := Aside0.mk (Kd.R_mono ho5 (fun k_ hk_ => Or.elim hk_ id (fun hn_ => Nat.le_trans HBL.out.size hn_))); have HB5 := Aside0.mk hb5; clear ho5 hb5 hk5)
    go_roundg 0
    case measure => omega
    case rel => exact ⟨4, b4, by first | rfl | (simp; done), .inr (.inr (.inr (.inr (⟨rfl, rfl, rfl⟩)))), HO5, HB5⟩
   ·clear H1 H2 H3 H4
    go_wp2
    have HBD := Aside0.mk (below_drew1 HBL.out)
    have HOD := Aside0.mk (Kd.R_drew HO.out)
    refine start_ (n := 12) (S := fun w' => w'.cell? ⟨gb, 4, none⟩ = some (.string a4) ∧ w'.cell? ⟨gb, 5, none⟩ = some (.int .i64 a5) ∧ w'.cell? ⟨gb, 6, none⟩ = some (.slice A6 l6.length c6)) (ds := []) #[false, false, false, false, false, false, false, false, false, false, false, false] (by kernel_rfl) rfl rfl ⟨(blk_cell (blk_below BK2.out HBD.out) 4).trans rfl, (blk_cell (blk_below BK2.out HBD.out) 5).trans rfl, (blk_cell (blk_below BK2.out HBD.out) 6).trans rfl⟩ (fun hHeld => ?_)
    refine pure_ (i := 0) (N := some 26) (v := ?_) (a' := ?_) #[true, false, false, false, false, false, false, false, false, false, false, false] rfl rfl (by kernel_rfl) (fun _ _ _ h => h) (Or.inl ⟨by rfl, ?_⟩) ?_ ?_
    rotate_left
    ·intro w'
     go_simp
     with_reducible rfl
    rotate_left
    ·simp only [Act.put, List.setIfInBounds_toArray, List.set_cons_zero, List.set_cons_succ, i64_w, i32_w]
     rfl
    refine pure_ (i := 1) (N := some 27) (v := ?_) (a' := ?_) #[true, true, false, false, false, false, false, false, false, false, false, false] rfl rfl (by kernel_rfl) (fun _ _ _ h => h) (Or.inl ⟨by rfl, ?_⟩) ?_ ?_
    rotate_left
    ·intro w'
     go_simp
     with_reducible rfl
    rotate_left
    ·simp only [Act.put, List.setIfInBounds_toArray, List.set_cons_zero, List.set_cons_succ, i64_w, i32_w]
     rfl
    refine pure_ (i := 2) (N := some 28) (v := ?_) (a' := ?_) #[true, true, true, false, false, false, false, false, false, false, false, false] rfl rfl (by kernel_rfl) (fun _ _ _ h => h) (Or.inl ⟨by rfl, ?_⟩) ?_ ?_
    rotate_left
    ·intro w'
     go_simp
     with_reducible rfl
    rotate_left
    ·simp only [Act.put, List.setIfInBounds_toArray, List.set_cons_zero, List.set_cons_succ, i64_w, i32_w]
     rfl
    refine pure_ (i := 5) (N := some 31) (v := ?_) (a' := ?_) #[true, true, true, false, false, true, false, false, false, false, false, false] rfl rfl (by kernel_rfl) (fun _ _ _ h => h) (Or.inl ⟨by rfl, ?_⟩) ?_ ?_
    rotate_left
    ·intro w'
     go_simp
     with_reducible rfl
    rotate_left
    ·simp only [Act.put, List.setIfInBounds_toArray, List.set_cons_zero, List.set_cons_succ, i64_w, i32_w]
     rfl
    refine pure_ (i := 8) (N := some 34) (v := ?_) (a' := ?_) #[true, true, true, false, false, true, false, false, true, false, false, false] rfl rfl (by kernel_rfl) (fun _ _ _ h => h) (Or.inl ⟨by rfl, ?_⟩) ?_ ?_
    rotate_left
    ·intro w'
     go_simp
     with_reducible rfl
    rotate_left
    ·simp only [Act.put, List.setIfInBounds_toArray, List.set_cons_zero, List.set_cons_succ, i64_w, i32_w]
     rfl
    refine take_ (i := 3) (N := some 29) (v := ?_) (a' := ?_) #[true, true, true, true, false, true, false, false, true, false, false, false] rfl rfl (by kernel_rfl) (fun _ _ _ h => h) (Or.inl ⟨by rfl, ?_⟩) hHeld ?_ ?_
    rotate_left
    ·rintro w' ⟨s0, s1, s2⟩
     go_simp
     with_reducible rfl
    rotate_left
    ·simp only [Act.put, List.setIfInBounds_toArray, List.set_cons_zero, List.set_cons_succ, i64_w, i32_w]
     rfl
    refine take_ (i := 6) (N := some 32) (v := ?_) (a' := ?_) #[true, true, true, true, false, true, true, false, true, false, false, false] rfl rfl (by kernel_rfl) (fun _ _ _ h => h) (Or.inl ⟨by rfl, ?_⟩) hHeld ?_ ?_
    rotate_left
    ·rintro w' ⟨s0, s1, s2⟩
     go_simp
     with_reducible rfl
    rotate_left
    ·simp only [Act.put, List.setIfInBounds_toArray, List.set_cons_zero, List.set_cons_succ, i64_w, i32_w]
     rfl
    refine take_ (i := 9) (N := some 35) (v := ?_) (a' := ?_) #[true, true, true, true, false, true, true, false, true, true, false, false] rfl rfl (by kernel_rfl) (fun _ _ _ h => h) (Or.inl ⟨by rfl, ?_⟩) hHeld ?_ ?_
    rotate_left
    ·rintro w' ⟨s0, s1, s2⟩
     go_simp
     with_reducible rfl
    rotate_left
    ·simp only [Act.put, List.setIfInBounds_toArray, List.set_cons_zero, List.set_cons_succ, i64_w, i32_w]
     rfl
    refine one_ (i := 4) (N := some 30) #[true, true, true, true, true, true, true, false, true, true, false, false] rfl rfl (by kernel_rfl) (by decide) (fun K hK => ?_)
    refine goes_ Try.func100 (by kernel_rfl) rfl #[u3, .string a4] (by rfl) rfl rfl (by simp only [List.map_toArray, List.map_cons, List.map_nil]; rfl) ?_
    with_reducible refine (impl_putText.calls k (fun k_ => w2.heap.size ≤ k_) u3 b4 a4 b5 w2 _ HBD.out HOD.out H5.out).mono ?_
    rintro e w6 ⟨u6, rfl, ho, hb, hk⟩
    refine ⟨_, rfl, ?_⟩
    have HO6 := Aside0.mk (Kd.R_mono ho (fun k_ hk_ => Or.elim hk_ id (fun hn_ => Nat.le_trans HBD.out.size hn_)))
    have HB6 := Aside0.mk hb
    clear ho hb hk
    refine hK.out _ _ ⟨(blk_cell (blk_below BK2.out HB6.out) 4).trans rfl, (blk_cell (blk_below BK2.out HB6.out) 5).trans rfl, (blk_cell (blk_below BK2.out HB6.out) 6).trans rfl⟩ (fun hHeld => ?_)
    clear hK K
    refine norm_ (a' := ?_) ?_ ?_
    rotate_left
    ·show Act.put _ (some 30) _ = _
     simp only [Act.put, List.setIfInBounds_toArray, List.set_cons_zero, List.set_cons_succ, i64_w, i32_w]
     rfl
    refine one_ (i := 7) (N := some 33) #[true, true, true, true, true, true, true, true, true, true, false, false] rfl rfl (by kernel_rfl) (by decide) (fun K hK => ?_)
    refine goes_ Try.func98 (by kernel_rfl) rfl #[u6, .int .i64 a5] (by rfl) rfl rfl (by simp only [List.map_toArray, List.map_cons, List.map_nil]; rfl) ?_
    with_reducible refine (impl_putNum.calls k (fun k_ => w2.heap.size ≤ k_) u6 b5 a5 b6 w2 _ HB6.out HO6.out H6.out).mono ?_
    rintro e w7 ⟨u7, rfl, ho, hb, hk⟩
    refine ⟨_, rfl, ?_⟩
    have HO7 := Aside0.mk (Kd.R_mono ho (fun k_ hk_ => Or.elim hk_ id (fun hn_ => Nat.le_trans HB6.out.size hn_)))
    have HB7 := Aside0.mk hb
    clear ho hb hk
    refine hK.out _ _ ⟨(blk_cell (blk_below BK2.out HB7.out) 4).trans rfl, (blk_cell (blk_below BK2.out HB7.out) 5).trans rfl, (blk_cell (blk_below BK2.out HB7.out) 6).trans rfl⟩ (fun hHeld => ?_)
    clear hK K
    refine norm_ (a' := ?_) ?_ ?_
    rotate_left
    ·show Act.put _ (some 33) _ = _
     simp only [Act.put, List.setIfInBounds_toArray, List.set_cons_zero, List.set_cons_succ, i64_w, i32_w]
     rfl
    refine one_ (i := 10) (N := some 36) #[true, true, true, true, true, true, true, true, true, true, true, false] rfl rfl (by kernel_rfl) (by decide) (fun K hK => ?_)
    refine goes_ Try.func99 (by kernel_rfl) rfl #[u7, .slice A6 l6.length c6] (by rfl) rfl rfl (by simp only [List.map_toArray, List.map_cons, List.map_nil]; rfl) ?_
    with_reducible refine (impl_putTexts.calls k (fun k_ => w2.heap.size ≤ k_) u7 b6 A6 c6 l6 r w2 _ HB7.out HO7.out (Kd.C_kept_came Kd.heap_string (Kd.C_below HR.out HB2.out) HB7.out (fun _ h_ => h_)) HC.out H7.out).mono ?_
    rintro e w8 ⟨u8, rfl, ho, hb, hk⟩
    refine ⟨_, rfl, ?_⟩
    have HO8 := Aside0.mk (Kd.R_mono ho (fun k_ hk_ => Or.elim hk_ id (fun hn_ => Nat.le_trans HB7.out.size hn_)))
    have HB8 := Aside0.mk hb
    clear ho hb hk
    refine hK.out _ _ ⟨(blk_cell (blk_below BK2.out HB8.out) 4).trans rfl, (blk_cell (blk_below BK2.out HB8.out) 5).trans rfl, (blk_cell (blk_below BK2.out HB8.out) 6).trans rfl⟩ (fun hHeld => ?_)
    clear hK K
    refine norm_ (a' := ?_) ?_ ?_
    rotate_left
    ·show Act.put _ (some 36) _ = _
     simp only [Act.put, List.setIfInBounds_toArray, List.set_cons_zero, List.set_cons_succ, i64_w, i32_w]
     rfl
    refine pure_ (i := 11) (N := some 2) (v := ?_) (a' := ?_) #[true, true, true, true, true, true, true, true, true, true, true, true] rfl rfl (by kernel_rfl) (fun _ _ _ h => h) (Or.inl ⟨by rfl, ?_⟩) ?_ ?_
    rotate_left
    ·intro w'
     go_simp
     with_reducible rfl
    rotate_left
    ·simp only [Act.put, List.setIfInBounds_toArray, List.set_cons_zero, List.set_cons_succ, i64_w, i32_w]
     rfl
    refine done_ (by kernel_rfl) ?_
    go_wp2
    go_ret
    exact ⟨_, rfl, Kd.R_mono (Kd.R_lower HO8.out HB2.out.size) (fun _ _ => trivial), HB2.out.trans (HB8.out.mono HB2.out.size)⟩
end Go.Proofs.Ytcogimnpffnanaa.Q
end

section
-- Written by a program of this session (wip/tools/pp.sh) over the print of the kit.
namespace Go.Proofs.Ytcogimnpffnanaa.Q
open Go.RowKit Go.Proofs.YtcogimnpffnanaaW.PrintWords Go.Proofs.YtcogimnpffnanaaW.PrintLast Go.Proofs.YtcogimnpffnanaaW.PrintMore
attribute [local go_sem] max2_int min2_int max_two min_two max_three min_three max_four min_four   -- for this text's walks alone
set_option linter.unusedVariables false
set_option linter.unusedSimpArgs false

end Go.Proofs.Ytcogimnpffnanaa.Q
end

section
-- Written by a program of this session (wip/tools/pp.sh) over the print of the kit.
namespace Go.Proofs.Ytcogimnpffnanaa.Q
open Go.RowKit Go.Proofs.YtcogimnpffnanaaW.PrintWords Go.Proofs.YtcogimnpffnanaaW.PrintLast Go.Proofs.YtcogimnpffnanaaW.PrintMore
attribute [local go_sem] max2_int min2_int max_two min_two max_three min_three max_four min_four   -- for this text's walks alone
set_option linter.unusedVariables false
set_option linter.unusedSimpArgs false

end Go.Proofs.Ytcogimnpffnanaa.Q
end

section
-- Written by a program of this session (wip/tools/pp.sh) over the print of the kit.
namespace Go.Proofs.Ytcogimnpffnanaa.Q
open Go.RowKit Go.Proofs.YtcogimnpffnanaaW.PrintWords Go.Proofs.YtcogimnpffnanaaW.PrintLast Go.Proofs.YtcogimnpffnanaaW.PrintMore
attribute [local go_sem] max2_int min2_int max_two min_two max_three min_three max_four min_four   -- for this text's walks alone
set_option linter.unusedVariables false
set_option linter.unusedSimpArgs false

/-! ### spec_MsgOk: function 73 -/
def spec_MsgOk.j0 : Nat → Bool → Int → Int → Int → Int → ByteArray → Int → List ByteArray → Option (Bool)
 | 0, _, _, _, _, _, _, _, _ => none
 | k + 1, x31, x602000, x602001, x602002, x602003, x602004, x602005, x602006 => if x31 = true then (some false) else (if x602000 = 1 then (if x602005 = 0 then (some ((x602006.length : Int) == 0)) else (some false)) else (if x602000 = 2 then (if x602005 < x602003 then (some ((x602006.length : Int) == 0)) else (some false)) else (if x602000 = 3 then (if x602005 < x602003 then (some ((x602006.length : Int) == (wrap64 (x602003 - x602005)))) else (some false)) else (some false))))
def spec_MsgOk.f (k : Nat) (a0_0 : Int) (a0_1 : Int) (a0_2 : Int) (a0_3 : Int) (a0_4 : ByteArray) (a0_5 : Int) (l0_6 : List ByteArray) : Option (Bool) := (spec_l1In.f a0_1 0 20).bind fun t602 => (if t602 = true then ((spec_l1In.f a0_2 0 20).bind fun t603 => (if t603 = true then (if a0_1 = a0_2 then (spec_MsgOk.j0 k true a0_0 a0_1 a0_2 a0_3 a0_4 a0_5 l0_6) else ((spec_HeadOk.f a0_3 a0_4).bind fun t604 => (if t604 = true then ((spec_l1In.f a0_5 0 200).bind fun t605 => (spec_MsgOk.j0 k (!t605) a0_0 a0_1 a0_2 a0_3 a0_4 a0_5 l0_6)) else (spec_MsgOk.j0 k true a0_0 a0_1 a0_2 a0_3 a0_4 a0_5 l0_6)))) else (spec_MsgOk.j0 k true a0_0 a0_1 a0_2 a0_3 a0_4 a0_5 l0_6))) else (spec_MsgOk.j0 k true a0_0 a0_1 a0_2 a0_3 a0_4 a0_5 l0_6))
theorem spec_MsgOk.mono_l : ∀ k, (∀ y0 y1 y2 y3 y4 y5 y6 y7, LeO (spec_MsgOk.j0 k y0 y1 y2 y3 y4 y5 y6 y7) (spec_MsgOk.j0 (k + 1) y0 y1 y2 y3 y4 y5 y6 y7))
 | 0 => fun _ _ _ _ _ _ _ _ r h => by simp [spec_MsgOk.j0] at h
 | k + 1 => by
  have ih0 := spec_MsgOk.mono_l k
  ·intro y0 y1 y2 y3 y4 y5 y6 y7
   unfold spec_MsgOk.j0
   repeat' first
   | (with_reducible exact ih0 _ _ _ _ _ _ _ _)
   | (with_reducible exact LeO.refl _)
   | (with_reducible exact LeO.none _)
   | (with_reducible refine LeO.ite ?_ ?_)
   | (with_reducible refine LeO.bind ?_ (fun _ => ?_))
   | exact ih0 _ _ _ _ _ _ _ _
   | exact LeO.none _
   | refine LeO.ite ?_ ?_
   | refine LeO.bind ?_ (fun _ => ?_)
theorem spec_MsgOk.mono : ∀ a0 a1 a2 a3 a4 a5 a6 k, LeO (spec_MsgOk.f k a0 a1 a2 a3 a4 a5 a6) (spec_MsgOk.f (k + 1) a0 a1 a2 a3 a4 a5 a6) := by
 intro a0 a1 a2 a3 a4 a5 a6 k
 have ih0 := spec_MsgOk.mono_l k
 unfold spec_MsgOk.f
 repeat' first
   | (with_reducible exact ih0 _ _ _ _ _ _ _ _)
   | (with_reducible exact LeO.refl _)
   | (with_reducible exact LeO.none _)
   | (with_reducible refine LeO.ite ?_ ?_)
   | (with_reducible refine LeO.bind ?_ (fun _ => ?_))
   | exact ih0 _ _ _ _ _ _ _ _
   | exact LeO.none _
   | refine LeO.ite ?_ ?_
   | refine LeO.bind ?_ (fun _ => ?_)
set_option maxHeartbeats 8000000 in
set_option maxRecDepth 100000 in
theorem spec_MsgOk.calls (k : Nat) (a0_0 : Int) (a0_1 : Int) (a0_2 : Int) (a0_3 : Int) (a0_4 : ByteArray) (a0_5 : Int) (A0_6 : Option Addr) (c0_6 : Nat) (l0_6 : List ByteArray) (r : Bool) (w : World) (hr0_6 : Kd.C Kd.string w A0_6 l0_6.length l0_6) (hc0_6 : l0_6.length ≤ c0_6) (h : spec_MsgOk.f k a0_0 a0_1 a0_2 a0_3 a0_4 a0_5 l0_6 = some r) :
  Calls Try.prog 73 #[.agg #[.int .i64 a0_0, .int .i64 a0_1, .int .i64 a0_2, .int .i64 a0_3, .string a0_4, .int .i64 a0_5, .slice A0_6 l0_6.length c0_6]] w fun e w' => e = .returned (.bool r) ∧ Below w.heap.size w w' := by
 have hu33 := Try.underlying33
 have hu31 := Try.underlying31
 have HR0_6 := Aside0.mk hr0_6
 have HC0_6 := Aside0.mk hc0_6
 clear hr0_6 hc0_6
 have HB := Aside0.mk (Below.refl w.heap.size w)
 have H : ((spec_l1In.f a0_1 0 20).bind fun t602 => (if t602 = true then ((spec_l1In.f a0_2 0 20).bind fun t603 => (if t603 = true then (if a0_1 = a0_2 then (spec_MsgOk.j0 k true a0_0 a0_1 a0_2 a0_3 a0_4 a0_5 l0_6) else ((spec_HeadOk.f a0_3 a0_4).bind fun t604 => (if t604 = true then ((spec_l1In.f a0_5 0 200).bind fun t605 => (spec_MsgOk.j0 k (!t605) a0_0 a0_1 a0_2 a0_3 a0_4 a0_5 l0_6)) else (spec_MsgOk.j0 k true a0_0 a0_1 a0_2 a0_3 a0_4 a0_5 l0_6)))) else (spec_MsgOk.j0 k true a0_0 a0_1 a0_2 a0_3 a0_4 a0_5 l0_6))) else (spec_MsgOk.j0 k true a0_0 a0_1 a0_2 a0_3 a0_4 a0_5 l0_6))) = some r := h
 clear h
 have HC2 := Aside0.mk H
 clear H
 go_enter Try.func73, Try.ntmps73
 go_upto_region 1 with (first | ((with_reducible refine gate_dst (N := 1) rfl ?_); (try (refine gate_guard (by rfl) ?_; dsimp only)); refine box_event ?hg (N := 1) ?hd (cs := #[.int .i64 a0_0, .int .i64 a0_1, .int .i64 a0_2, .int .i64 a0_3, .string a0_4, .int .i64 a0_5, .slice A0_6 l0_6.length c0_6]) (t := 33) ?hr ?_; (case hd => rfl); (case hg => rfl); (case hr => first | (go_simp; done) | (go_simp; rfl)); intro gb601 hg w3 hbox hb; have n0_ := Aside0.mk (below_step (by repeat (first | (with_reducible first | exact HB.out | apply below_alloc | apply pw_below_drewN | apply below_drew1) | exact HB.out)) hb); have n1_ := Aside0.mk (hbox); have n2_ := Aside0.mk ((by rw [hg]; exact (below_size (by repeat (first | (with_reducible first | exact HB.out | apply below_alloc | apply pw_below_drewN | apply below_drew1) | exact HB.out))) : w.heap.size ≤ gb601)); have n3_ := Aside0.mk ((by rw [hg]; exact (below_size (by repeat (first | (with_reducible first | exact HB.out | apply below_alloc | apply pw_below_drewN | apply below_drew1) | exact HB.out))) : w.heap.size ≤ gb601)); clear HB; have HB := n0_; have BK601 := n1_; have GW601 := n2_; have GE601 := n3_; clear n0_ n1_ n2_ n3_; clear hb hbox hg))
 (try simp only [Act.put, List.setIfInBounds_toArray, List.set_cons_zero, List.set_cons_succ])
 go_cut [31] (fun v31 wc => ∃ (kq : Nat) (x31_1 : Bool), v31 = .bool x31_1 ∧ Aside0 (spec_MsgOk.j0 kq x31_1 a0_0 a0_1 a0_2 a0_3 a0_4 a0_5 l0_6 = some r) ∧ Aside0 (kq ≤ k) ∧ Aside0 (wc.heap[gb601]? = some (.cells #[.int .i64 a0_0, .int .i64 a0_1, .int .i64 a0_2, .int .i64 a0_3, .string a0_4, .int .i64 a0_5, (.slice A0_6 l0_6.length c0_6)] 33 (0, 0))) ∧ Aside0 (Below w.heap.size w wc))
 case first =>
  have H := HC2.out
  clear HC2
  replace H := Option.bind_eq_some_iff.mp H
  obtain ⟨t602, A40, H⟩ := H
  replace H : (if t602 = true then ((spec_l1In.f a0_2 0 20).bind fun t603 => (if t603 = true then (if a0_1 = a0_2 then (spec_MsgOk.j0 k true a0_0 a0_1 a0_2 a0_3 a0_4 a0_5 l0_6) else ((spec_HeadOk.f a0_3 a0_4).bind fun t604 => (if t604 = true then ((spec_l1In.f a0_5 0 200).bind fun t605 => (spec_MsgOk.j0 k (!t605) a0_0 a0_1 a0_2 a0_3 a0_4 a0_5 l0_6)) else (spec_MsgOk.j0 k true a0_0 a0_1 a0_2 a0_3 a0_4 a0_5 l0_6)))) else (spec_MsgOk.j0 k true a0_0 a0_1 a0_2 a0_3 a0_4 a0_5 l0_6))) else (spec_MsgOk.j0 k true a0_0 a0_1 a0_2 a0_3 a0_4 a0_5 l0_6)) = some r := H
  have A4 := Aside0.mk A40
  clear A40
  by_cases c5 : t602 = true
  ·subst c5
   have H1 : ((spec_l1In.f a0_2 0 20).bind fun t603 => (if t603 = true then (if a0_1 = a0_2 then (spec_MsgOk.j0 k true a0_0 a0_1 a0_2 a0_3 a0_4 a0_5 l0_6) else ((spec_HeadOk.f a0_3 a0_4).bind fun t604 => (if t604 = true then ((spec_l1In.f a0_5 0 200).bind fun t605 => (spec_MsgOk.j0 k (!t605) a0_0 a0_1 a0_2 a0_3 a0_4 a0_5 l0_6)) else (spec_MsgOk.j0 k true a0_0 a0_1 a0_2 a0_3 a0_4 a0_5 l0_6)))) else (spec_MsgOk.j0 k true a0_0 a0_1 a0_2 a0_3 a0_4 a0_5 l0_6))) = some r := by rw [if_pos rfl] at H; exact H
   clear H
   have H := H1
   clear H1
   replace H := Option.bind_eq_some_iff.mp H
   obtain ⟨t603, A60, H⟩ := H
   replace H : (if t603 = true then (if a0_1 = a0_2 then (spec_MsgOk.j0 k true a0_0 a0_1 a0_2 a0_3 a0_4 a0_5 l0_6) else ((spec_HeadOk.f a0_3 a0_4).bind fun t604 => (if t604 = true then ((spec_l1In.f a0_5 0 200).bind fun t605 => (spec_MsgOk.j0 k (!t605) a0_0 a0_1 a0_2 a0_3 a0_4 a0_5 l0_6)) else (spec_MsgOk.j0 k true a0_0 a0_1 a0_2 a0_3 a0_4 a0_5 l0_6)))) else (spec_MsgOk.j0 k true a0_0 a0_1 a0_2 a0_3 a0_4 a0_5 l0_6)) = some r := H
   have A6 := Aside0.mk A60
   clear A60
   by_cases c7 : t603 = true
   ·subst c7
    have H1 : (if a0_1 = a0_2 then (spec_MsgOk.j0 k true a0_0 a0_1 a0_2 a0_3 a0_4 a0_5 l0_6) else ((spec_HeadOk.f a0_3 a0_4).bind fun t604 => (if t604 = true then ((spec_l1In.f a0_5 0 200).bind fun t605 => (spec_MsgOk.j0 k (!t605) a0_0 a0_1 a0_2 a0_3 a0_4 a0_5 l0_6)) else (spec_MsgOk.j0 k true a0_0 a0_1 a0_2 a0_3 a0_4 a0_5 l0_6)))) = some r := by rw [if_pos rfl] at H; exact H
    clear H
    have H := H1
    clear H1
    by_cases c8 : a0_1 = a0_2
    ·rw [if_pos c8] at H
     have c8b0 : (a0_1 == a0_2) = true := beq_iff_eq.mpr c8
     have c8b1 : (a0_1 != a0_2) = false := bne_eq_false_iff_eq.mpr c8
     clear c8
     (first | rw [c8b0] | (simp only [i64_w, i32_w]; rw [c8b0]) | skip)
     have H' := Aside0.mk H
     clear H
     have hcz9_0 : w3.cell? ⟨gb601, 0, none⟩ = some (.int .i64 a0_0) := (blk_cell BK601.out 0).trans rfl
     have hcz9_1 : w3.cell? ⟨gb601, 1, none⟩ = some (.int .i64 a0_1) := (blk_cell BK601.out 1).trans rfl
     have hcz9_2 : w3.cell? ⟨gb601, 2, none⟩ = some (.int .i64 a0_2) := (blk_cell BK601.out 2).trans rfl
     have hcz9_3 : w3.cell? ⟨gb601, 3, none⟩ = some (.int .i64 a0_3) := (blk_cell BK601.out 3).trans rfl
     have hcz9_4 : w3.cell? ⟨gb601, 4, none⟩ = some (.string a0_4) := (blk_cell BK601.out 4).trans rfl
     have hcz9_5 : w3.cell? ⟨gb601, 5, none⟩ = some (.int .i64 a0_5) := (blk_cell BK601.out 5).trans rfl
     have hcz9_6 : w3.cell? ⟨gb601, 6, none⟩ = some (.slice A0_6 l0_6.length c0_6) := (blk_cell BK601.out 6).trans rfl
     have hfz9_0 := blk_frozen BK601.out 0
     have hfz9_1 := blk_frozen BK601.out 1
     have hfz9_2 := blk_frozen BK601.out 2
     have hfz9_3 := blk_frozen BK601.out 3
     have hfz9_4 := blk_frozen BK601.out 4
     have hfz9_5 := blk_frozen BK601.out 5
     have hfz9_6 := blk_frozen BK601.out 6
     go_wp2_with (first | ((with_reducible refine gate_callee (f := 91) rfl ?_); refine goesL_ (some 5) rfl rfl Try.func91 (by kernel_rfl) rfl #[.int .i64 a0_1, .int .i64 0, .int .i64 20] rfl (by (try simp only [List.map_toArray, List.map_cons, List.map_nil]); first | done | rfl | (simp only [List.length_drop, List.length_take]; rfl)) ?_; (with_reducible refine (spec_l1In.calls a0_1 0 20 true _ A4.out).mono ?_); rintro e w' ⟨rfl, ⟨nd, rfl⟩⟩; refine ⟨_, rfl, ?_⟩) | (go_at_call 91; (with_reducible refine (spec_l1In.calls a0_2 0 20 true _ A6.out).mono ?_); rintro e w' ⟨rfl, ⟨nd, rfl⟩⟩))
     go_meet
     case rel => exact ⟨_, (true), (by first | rfl | (simp; done) | (simp [*]; done)), H', ⟨by first | omega | exact Nat.le_refl _⟩, ⟨by (with_reducible repeat (first | refine blk_drewN ?_ _ | refine blk_drew ?_ | refine blk_alloc ?_ _)); exact BK601.out⟩, ⟨by repeat (first | (with_reducible first | exact HB.out | apply below_alloc | apply pw_below_drewN | apply below_drew1 | refine below_set ?_ GE601.out) | exact HB.out)⟩⟩
    ·rw [if_neg c8] at H
     have c8b0 : (a0_1 == a0_2) = false := beq_eq_false_iff_ne.mpr c8
     have c8b1 : (a0_1 != a0_2) = true := bne_iff_ne.mpr c8
     (first | rw [c8b0] | (simp only [i64_w, i32_w]; rw [c8b0]) | skip)
     replace H := Option.bind_eq_some_iff.mp H
     obtain ⟨t604, A100, H⟩ := H
     replace H : (if t604 = true then ((spec_l1In.f a0_5 0 200).bind fun t605 => (spec_MsgOk.j0 k (!t605) a0_0 a0_1 a0_2 a0_3 a0_4 a0_5 l0_6)) else (spec_MsgOk.j0 k true a0_0 a0_1 a0_2 a0_3 a0_4 a0_5 l0_6)) = some r := H
     have A10 := Aside0.mk A100
     clear A100
     by_cases c11 : t604 = true
     ·subst c11
      have H1 : ((spec_l1In.f a0_5 0 200).bind fun t605 => (spec_MsgOk.j0 k (!t605) a0_0 a0_1 a0_2 a0_3 a0_4 a0_5 l0_6)) = some r := by rw [if_pos rfl] at H; exact H
      clear H
      have H := H1
      clear H1
      replace H := Option.bind_eq_some_iff.mp H
      obtain ⟨t605, A120, H⟩ := H
      replace H : (spec_MsgOk.j0 k (!t605) a0_0 a0_1 a0_2 a0_3 a0_4 a0_5 l0_6) = some r := H
      have A12 := Aside0.mk A120
      clear A120
      have H' := Aside0.mk H
      clear H
      have hcz13_0 : w3.cell? ⟨gb601, 0, none⟩ = some (.int .i64 a0_0) := (blk_cell BK601.out 0).trans rfl
      have hcz13_1 : w3.cell? ⟨gb601, 1, none⟩ = some (.int .i64 a0_1) := (blk_cell BK601.out 1).trans rfl
      have hcz13_2 : w3.cell? ⟨gb601, 2, none⟩ = some (.int .i64 a0_2) := (blk_cell BK601.out 2).trans rfl
      have hcz13_3 : w3.cell? ⟨gb601, 3, none⟩ = some (.int .i64 a0_3) := (blk_cell BK601.out 3).trans rfl
      have hcz13_4 : w3.cell? ⟨gb601, 4, none⟩ = some (.string a0_4) := (blk_cell BK601.out 4).trans rfl
      have hcz13_5 : w3.cell? ⟨gb601, 5, none⟩ = some (.int .i64 a0_5) := (blk_cell BK601.out 5).trans rfl
      have hcz13_6 : w3.cell? ⟨gb601, 6, none⟩ = some (.slice A0_6 l0_6.length c0_6) := (blk_cell BK601.out 6).trans rfl
      have hfz13_0 := blk_frozen BK601.out 0
      have hfz13_1 := blk_frozen BK601.out 1
      have hfz13_2 := blk_frozen BK601.out 2
      have hfz13_3 := blk_frozen BK601.out 3
      have hfz13_4 := blk_frozen BK601.out 4
      have hfz13_5 := blk_frozen BK601.out 5
      have hfz13_6 := blk_frozen BK601.out 6
      go_wp2_with (first | ((with_reducible refine gate_callee (f := 91) rfl ?_); refine goesL_ (some 5) rfl rfl Try.func91 (by kernel_rfl) rfl #[.int .i64 a0_1, .int .i64 0, .int .i64 20] rfl (by (try simp only [List.map_toArray, List.map_cons, List.map_nil]); first | done | rfl | (simp only [List.length_drop, List.length_take]; rfl)) ?_; (with_reducible refine (spec_l1In.calls a0_1 0 20 true _ A4.out).mono ?_); rintro e w' ⟨rfl, ⟨nd, rfl⟩⟩; refine ⟨_, rfl, ?_⟩) | (go_at_call 91; (with_reducible refine (spec_l1In.calls a0_2 0 20 true _ A6.out).mono ?_); rintro e w' ⟨rfl, ⟨nd, rfl⟩⟩) | (go_at_call 38; (with_reducible refine (spec_HeadOk.calls a0_3 a0_4 true _ A10.out).mono ?_); rintro e w14 ⟨rfl, hb⟩; have n0_ := Aside0.mk (blk_below (g := gb601) (o := .cells #[.int .i64 a0_0, .int .i64 a0_1, .int .i64 a0_2, .int .i64 a0_3, .string a0_4, .int .i64 a0_5, .slice A0_6 l0_6.length c0_6] 33 (0, 0)) (by (with_reducible repeat (first | refine blk_drewN ?_ _ | refine blk_drew ?_ | refine blk_alloc ?_ _)); exact BK601.out) hb); have n1_ := Aside0.mk (below_step (by repeat (first | (with_reducible first | exact HB.out | apply below_alloc | apply pw_below_drewN | apply below_drew1 | refine below_set ?_ GE601.out) | exact HB.out)) hb); clear BK601; clear HB; have BK601 := n0_; have HB := n1_; clear n0_ n1_; (try clear hb); (try clear hb2); (try clear hk); (try clear hi); have hcz15_0 : w14.cell? ⟨gb601, 0, none⟩ = some (.int .i64 a0_0) := (blk_cell BK601.out 0).trans rfl; have hcz15_1 : w14.cell? ⟨gb601, 1, none⟩ = some (.int .i64 a0_1) := (blk_cell BK601.out 1).trans rfl; have hcz15_2 : w14.cell? ⟨gb601, 2, none⟩ = some (.int .i64 a0_2) := (blk_cell BK601.out 2).trans rfl; have hcz15_3 : w14.cell? ⟨gb601, 3, none⟩ = some (.int .i64 a0_3) := (blk_cell BK601.out 3).trans rfl; have hcz15_4 : w14.cell? ⟨gb601, 4, none⟩ = some (.string a0_4) := (blk_cell BK601.out 4).trans rfl; have hcz15_5 : w14.cell? ⟨gb601, 5, none⟩ = some (.int .i64 a0_5) := (blk_cell BK601.out 5).trans rfl; have hcz15_6 : w14.cell? ⟨gb601, 6, none⟩ = some (.slice A0_6 l0_6.length c0_6) := (blk_cell BK601.out 6).trans rfl; have hfz15_0 := blk_frozen BK601.out 0; have hfz15_1 := blk_frozen BK601.out 1; have hfz15_2 := blk_frozen BK601.out 2; have hfz15_3 := blk_frozen BK601.out 3; have hfz15_4 := blk_frozen BK601.out 4; have hfz15_5 := blk_frozen BK601.out 5; have hfz15_6 := blk_frozen BK601.out 6) | (go_at_call 91; (with_reducible refine (spec_l1In.calls a0_5 0 200 t605 _ A12.out).mono ?_); rintro e w' ⟨rfl, ⟨nd, rfl⟩⟩))
      go_meet
      case rel => exact ⟨_, (!t605), (by first | rfl | (simp; done) | (simp [*]; done)), H', ⟨by first | omega | exact Nat.le_refl _⟩, ⟨by (with_reducible repeat (first | refine blk_drewN ?_ _ | refine blk_drew ?_ | refine blk_alloc ?_ _)); exact BK601.out⟩, ⟨by repeat (first | (with_reducible first | exact HB.out | apply below_alloc | apply pw_below_drewN | apply below_drew1 | refine below_set ?_ GE601.out) | exact HB.out)⟩⟩
     ·replace c11 := Bool.eq_false_iff.mpr c11
      subst c11
      have H1 : (spec_MsgOk.j0 k true a0_0 a0_1 a0_2 a0_3 a0_4 a0_5 l0_6) = some r := by rw [if_neg (show ¬ (false = true) by decide)] at H; exact H
      clear H
      have H := H1
      clear H1
      have H' := Aside0.mk H
      clear H
      have hcz16_0 : w3.cell? ⟨gb601, 0, none⟩ = some (.int .i64 a0_0) := (blk_cell BK601.out 0).trans rfl
      have hcz16_1 : w3.cell? ⟨gb601, 1, none⟩ = some (.int .i64 a0_1) := (blk_cell BK601.out 1).trans rfl
      have hcz16_2 : w3.cell? ⟨gb601, 2, none⟩ = some (.int .i64 a0_2) := (blk_cell BK601.out 2).trans rfl
      have hcz16_3 : w3.cell? ⟨gb601, 3, none⟩ = some (.int .i64 a0_3) := (blk_cell BK601.out 3).trans rfl
      have hcz16_4 : w3.cell? ⟨gb601, 4, none⟩ = some (.string a0_4) := (blk_cell BK601.out 4).trans rfl
      have hcz16_5 : w3.cell? ⟨gb601, 5, none⟩ = some (.int .i64 a0_5) := (blk_cell BK601.out 5).trans rfl
      have hcz16_6 : w3.cell? ⟨gb601, 6, none⟩ = some (.slice A0_6 l0_6.length c0_6) := (blk_cell BK601.out 6).trans rfl
      have hfz16_0 := blk_frozen BK601.out 0
      have hfz16_1 := blk_frozen BK601.out 1
      have hfz16_2 := blk_frozen BK601.out 2
      have hfz16_3 := blk_frozen BK601.out 3
      have hfz16_4 := blk_frozen BK601.out 4
      have hfz16_5 := blk_frozen BK601.out 5
      have hfz16_6 := blk_frozen BK601.out 6
      go_wp2_with (first | ((with_reducible refine gate_callee (f := 91) rfl ?_); refine goesL_ (some 5) rfl rfl Try.func91 (by kernel_rfl) rfl #[.int .i64 a0_1, .int .i64 0, .int .i64 20] rfl (by (try simp only [List.map_toArray, List.map_cons, List.map_nil]); first | done | rfl | (simp only [List.length_drop, List.length_take]; rfl)) ?_; (with_reducible refine (spec_l1In.calls a0_1 0 20 true _ A4.out).mono ?_); rintro e w' ⟨rfl, ⟨nd, rfl⟩⟩; refine ⟨_, rfl, ?_⟩) | (go_at_call 91; (with_reducible refine (spec_l1In.calls a0_2 0 20 true _ A6.out).mono ?_); rintro e w' ⟨rfl, ⟨nd, rfl⟩⟩) | (go_at_call 38; (with_reducible refine (spec_HeadOk.calls a0_3 a0_4 false _ A10.out).mono ?_); rintro e w17 ⟨rfl, hb⟩; have n0_ := Aside0.mk (blk_below (g := gb601) (o := .cells #[.int .i64 a0_0, .int .i64 a0_1, .int .i64 a0_2, .int .i64 a0_3, .string a0_4, .int .i64 a0_5, .slice A0_6 l0_6.length c0_6] 33 (0, 0)) (by (with_reducible repeat (first | refine blk_drewN ?_ _ | refine blk_drew ?_ | refine blk_alloc ?_ _)); exact BK601.out) hb); have n1_ := Aside0.mk (below_step (by repeat (first | (with_reducible first | exact HB.out | apply below_alloc | apply pw_below_drewN | apply below_drew1 | refine below_set ?_ GE601.out) | exact HB.out)) hb); clear BK601; clear HB; have BK601 := n0_; have HB := n1_; clear n0_ n1_; (try clear hb); (try clear hb2); (try clear hk); (try clear hi)))
      go_meet
      case rel => exact ⟨_, (true), (by first | rfl | (simp; done) | (simp [*]; done)), H', ⟨by first | omega | exact Nat.le_refl _⟩, ⟨by (with_reducible repeat (first | refine blk_drewN ?_ _ | refine blk_drew ?_ | refine blk_alloc ?_ _)); exact BK601.out⟩, ⟨by repeat (first | (with_reducible first | exact HB.out | apply below_alloc | apply pw_below_drewN | apply below_drew1 | refine below_set ?_ GE601.out) | exact HB.out)⟩⟩
   ·replace c7 := Bool.eq_false_iff.mpr c7
    subst c7
    have H1 : (spec_MsgOk.j0 k true a0_0 a0_1 a0_2 a0_3 a0_4 a0_5 l0_6) = some r := by rw [if_neg (show ¬ (false = true) by decide)] at H; exact H
    clear H
    have H := H1
    clear H1
    have H' := Aside0.mk H
    clear H
    have hcz18_0 : w3.cell? ⟨gb601, 0, none⟩ = some (.int .i64 a0_0) := (blk_cell BK601.out 0).trans rfl
    have hcz18_1 : w3.cell? ⟨gb601, 1, none⟩ = some (.int .i64 a0_1) := (blk_cell BK601.out 1).trans rfl
    have hcz18_2 : w3.cell? ⟨gb601, 2, none⟩ = some (.int .i64 a0_2) := (blk_cell BK601.out 2).trans rfl
    have hcz18_3 : w3.cell? ⟨gb601, 3, none⟩ = some (.int .i64 a0_3) := (blk_cell BK601.out 3).trans rfl
    have hcz18_4 : w3.cell? ⟨gb601, 4, none⟩ = some (.string a0_4) := (blk_cell BK601.out 4).trans rfl
    have hcz18_5 : w3.cell? ⟨gb601, 5, none⟩ = some (.int .i64 a0_5) := (blk_cell BK601.out 5).trans rfl
    have hcz18_6 : w3.cell? ⟨gb601, 6, none⟩ = some (.slice A0_6 l0_6.length c0_6) := (blk_cell BK601.out 6).trans rfl
    have hfz18_0 := blk_frozen BK601.out 0
    have hfz18_1 := blk_frozen BK601.out 1
    have hfz18_2 := blk_frozen BK601.out 2
    have hfz18_3 := blk_frozen BK601.out 3
    have hfz18_4 := blk_frozen BK601.out 4
    have hfz18_5 := blk_frozen BK601.out 5
    have hfz18_6 := blk_frozen BK601.out 6
    go_wp2_with (first | ((with_reducible refine gate_callee (f := 91) rfl ?_); refine goesL_ (some 5) rfl rfl Try.func91 (by kernel_rfl) rfl #[.int .i64 a0_1, .int .i64 0, .int .i64 20] rfl (by (try simp only [List.map_toArray, List.map_cons, List.map_nil]); first | done | rfl | (simp only [List.length_drop, List.length_take]; rfl)) ?_; (with_reducible refine (spec_l1In.calls a0_1 0 20 true _ A4.out).mono ?_); rintro e w' ⟨rfl, ⟨nd, rfl⟩⟩; refine ⟨_, rfl, ?_⟩) | (go_at_call 91; (with_reducible refine (spec_l1In.calls a0_2 0 20 false _ A6.out).mono ?_); rintro e w' ⟨rfl, ⟨nd, rfl⟩⟩))
    go_meet
    case rel => exact ⟨_, (true), (by first | rfl | (simp; done) | (simp [*]; done)), H', ⟨by first | omega | exact Nat.le_refl _⟩, ⟨by (with_reducible repeat (first | refine blk_drewN ?_ _ | refine blk_drew ?_ | refine blk_alloc ?_ _)); exact BK601.out⟩, ⟨by repeat (first | (with_reducible first | exact HB.out | apply below_alloc | apply pw_below_drewN | apply below_drew1 | refine below_set ?_ GE601.out) | exact HB.out)⟩⟩
  ·replace c5 := Bool.eq_false_iff.mpr c5
   subst c5
   have H1 : (spec_MsgOk.j0 k true a0_0 a0_1 a0_2 a0_3 a0_4 a0_5 l0_6) = some r := by rw [if_neg (show ¬ (false = true) by decide)] at H; exact H
   clear H
   have H := H1
   clear H1
   have H' := Aside0.mk H
   clear H
   have hcz19_0 : w3.cell? ⟨gb601, 0, none⟩ = some (.int .i64 a0_0) := (blk_cell BK601.out 0).trans rfl
   have hcz19_1 : w3.cell? ⟨gb601, 1, none⟩ = some (.int .i64 a0_1) := (blk_cell BK601.out 1).trans rfl
   have hcz19_2 : w3.cell? ⟨gb601, 2, none⟩ = some (.int .i64 a0_2) := (blk_cell BK601.out 2).trans rfl
   have hcz19_3 : w3.cell? ⟨gb601, 3, none⟩ = some (.int .i64 a0_3) := (blk_cell BK601.out 3).trans rfl
   have hcz19_4 : w3.cell? ⟨gb601, 4, none⟩ = some (.string a0_4) := (blk_cell BK601.out 4).trans rfl
   have hcz19_5 : w3.cell? ⟨gb601, 5, none⟩ = some (.int .i64 a0_5) := (blk_cell BK601.out 5).trans rfl
   have hcz19_6 : w3.cell? ⟨gb601, 6, none⟩ = some (.slice A0_6 l0_6.length c0_6) := (blk_cell BK601.out 6).trans rfl
   have hfz19_0 := blk_frozen BK601.out 0
   have hfz19_1 := blk_frozen BK601.out 1
   have hfz19_2 := blk_frozen BK601.out 2
   have hfz19_3 := blk_frozen BK601.out 3
   have hfz19_4 := blk_frozen BK601.out 4
   have hfz19_5 := blk_frozen BK601.out 5
   have hfz19_6 := blk_frozen BK601.out 6
   go_wp2_with (first | ((with_reducible refine gate_callee (f := 91) rfl ?_); refine goesL_ (some 5) rfl rfl Try.func91 (by kernel_rfl) rfl #[.int .i64 a0_1, .int .i64 0, .int .i64 20] rfl (by (try simp only [List.map_toArray, List.map_cons, List.map_nil]); first | done | rfl | (simp only [List.length_drop, List.length_take]; rfl)) ?_; (with_reducible refine (spec_l1In.calls a0_1 0 20 false _ A4.out).mono ?_); rintro e w' ⟨rfl, ⟨nd, rfl⟩⟩; refine ⟨_, rfl, ?_⟩))
   go_meet
   case rel => exact ⟨_, (true), (by first | rfl | (simp; done) | (simp [*]; done)), H', ⟨by first | omega | exact Nat.le_refl _⟩, ⟨by (with_reducible repeat (first | refine blk_drewN ?_ _ | refine blk_drew ?_ | refine blk_alloc ?_ _)); exact BK601.out⟩, ⟨by repeat (first | (with_reducible first | exact HB.out | apply below_alloc | apply pw_below_drewN | apply below_drew1 | refine below_set ?_ GE601.out) | exact HB.out)⟩⟩
 case rest =>
  clear HC2
  try clear c1
  try clear p2
  try clear c5
  try clear c7
  try clear c8
  try clear c8b0
  try clear c8b1
  try clear c9
  try clear c11
  try clear hcz13_0
  try clear hcz13_1
  try clear hcz13_2
  try clear hcz13_3
  try clear hcz13_4
  try clear hcz13_5
  try clear hcz13_6
  try clear hcz15_0
  try clear hcz15_1
  try clear hcz15_2
  try clear hcz15_3
  try clear hcz15_4
  try clear hcz15_5
  try clear hcz15_6
  try clear hcz16_0
  try clear hcz16_1
  try clear hcz16_2
  try clear hcz16_3
  try clear hcz16_4
  try clear hcz16_5
  try clear hcz16_6
  try clear hcz18_0
  try clear hcz18_1
  try clear hcz18_2
  try clear hcz18_3
  try clear hcz18_4
  try clear hcz18_5
  try clear hcz18_6
  try clear hcz19_0
  try clear hcz19_1
  try clear hcz19_2
  try clear hcz19_3
  try clear hcz19_4
  try clear hcz19_5
  try clear hcz19_6
  try clear hcz9_0
  try clear hcz9_1
  try clear hcz9_2
  try clear hcz9_3
  try clear hcz9_4
  try clear hcz9_5
  try clear hcz9_6
  try clear hfz13_0
  try clear hfz13_1
  try clear hfz13_2
  try clear hfz13_3
  try clear hfz13_4
  try clear hfz13_5
  try clear hfz13_6
  try clear hfz15_0
  try clear hfz15_1
  try clear hfz15_2
  try clear hfz15_3
  try clear hfz15_4
  try clear hfz15_5
  try clear hfz15_6
  try clear hfz16_0
  try clear hfz16_1
  try clear hfz16_2
  try clear hfz16_3
  try clear hfz16_4
  try clear hfz16_5
  try clear hfz16_6
  try clear hfz18_0
  try clear hfz18_1
  try clear hfz18_2
  try clear hfz18_3
  try clear hfz18_4
  try clear hfz18_5
  try clear hfz18_6
  try clear hfz19_0
  try clear hfz19_1
  try clear hfz19_2
  try clear hfz19_3
  try clear hfz19_4
  try clear hfz19_5
  try clear hfz19_6
  try clear hfz9_0
  try clear hfz9_1
  try clear hfz9_2
  try clear hfz9_3
  try clear hfz9_4
  try clear hfz9_5
  try clear hfz9_6
  obtain ⟨kq, x31_1, rfl, HA, HJ1, BK601, HB⟩ := hcut
  cases kq with
  | zero => exact absurd HA.out (by simp [spec_MsgOk.j0])
  | succ kj1 =>
   have H := HA.out
   clear HA
   simp only [spec_MsgOk.j0] at H
   by_cases c20 : x31_1 = true
   ·subst c20
    have H1 : (some false) = some r := by rw [if_pos rfl] at H; exact H
    clear H
    have H := H1
    clear H1
    obtain rfl := Option.some.inj H
    go_wp2
    go_ret
    exact ⟨by first | rfl | (simp [errW_none, errW_some] <;> rfl) | (simp [*, errW_none, errW_some] <;> rfl), by repeat (first | (with_reducible first | exact HB.out | apply below_alloc | apply pw_below_drewN | apply below_drew1 | refine below_set ?_ GE601.out) | exact HB.out)⟩
   ·replace c20 := Bool.eq_false_iff.mpr c20
    subst c20
    have H1 : (if a0_0 = 1 then (if a0_5 = 0 then (some ((l0_6.length : Int) == 0)) else (some false)) else (if a0_0 = 2 then (if a0_5 < a0_3 then (some ((l0_6.length : Int) == 0)) else (some false)) else (if a0_0 = 3 then (if a0_5 < a0_3 then (some ((l0_6.length : Int) == (wrap64 (a0_3 - a0_5)))) else (some false)) else (some false)))) = some r := by rw [if_neg (show ¬ (false = true) by decide)] at H; exact H
    clear H
    have H := H1
    clear H1
    by_cases c21 : a0_0 = 1
    ·rw [if_pos c21] at H
     have c21b0 : (a0_0 == 1) = true := beq_iff_eq.mpr c21
     have c21b1 : (a0_0 != 1) = false := bne_eq_false_iff_eq.mpr c21
     clear c21
     by_cases c22 : a0_5 = 0
     ·rw [if_pos c22] at H
      have c22b0 : (a0_5 == 0) = true := beq_iff_eq.mpr c22
      have c22b1 : (a0_5 != 0) = false := bne_eq_false_iff_eq.mpr c22
      clear c22
      obtain rfl := Option.some.inj H
      have hcz23_0 : wc.cell? ⟨gb601, 0, none⟩ = some (.int .i64 a0_0) := (blk_cell BK601.out 0).trans rfl
      have hcz23_1 : wc.cell? ⟨gb601, 1, none⟩ = some (.int .i64 a0_1) := (blk_cell BK601.out 1).trans rfl
      have hcz23_2 : wc.cell? ⟨gb601, 2, none⟩ = some (.int .i64 a0_2) := (blk_cell BK601.out 2).trans rfl
      have hcz23_3 : wc.cell? ⟨gb601, 3, none⟩ = some (.int .i64 a0_3) := (blk_cell BK601.out 3).trans rfl
      have hcz23_4 : wc.cell? ⟨gb601, 4, none⟩ = some (.string a0_4) := (blk_cell BK601.out 4).trans rfl
      have hcz23_5 : wc.cell? ⟨gb601, 5, none⟩ = some (.int .i64 a0_5) := (blk_cell BK601.out 5).trans rfl
      have hcz23_6 : wc.cell? ⟨gb601, 6, none⟩ = some (.slice A0_6 l0_6.length c0_6) := (blk_cell BK601.out 6).trans rfl
      have hfz23_0 := blk_frozen BK601.out 0
      have hfz23_1 := blk_frozen BK601.out 1
      have hfz23_2 := blk_frozen BK601.out 2
      have hfz23_3 := blk_frozen BK601.out 3
      have hfz23_4 := blk_frozen BK601.out 4
      have hfz23_5 := blk_frozen BK601.out 5
      have hfz23_6 := blk_frozen BK601.out 6
      go_wp2
      go_ret
      exact ⟨by first | rfl | (simp [errW_none, errW_some] <;> rfl) | (simp [*, errW_none, errW_some] <;> rfl), by repeat (first | (with_reducible first | exact HB.out | apply below_alloc | apply pw_below_drewN | apply below_drew1 | refine below_set ?_ GE601.out) | exact HB.out)⟩
     ·rw [if_neg c22] at H
      have c22b0 : (a0_5 == 0) = false := beq_eq_false_iff_ne.mpr c22
      have c22b1 : (a0_5 != 0) = true := bne_iff_ne.mpr c22
      obtain rfl := Option.some.inj H
      have hcz24_0 : wc.cell? ⟨gb601, 0, none⟩ = some (.int .i64 a0_0) := (blk_cell BK601.out 0).trans rfl
      have hcz24_1 : wc.cell? ⟨gb601, 1, none⟩ = some (.int .i64 a0_1) := (blk_cell BK601.out 1).trans rfl
      have hcz24_2 : wc.cell? ⟨gb601, 2, none⟩ = some (.int .i64 a0_2) := (blk_cell BK601.out 2).trans rfl
      have hcz24_3 : wc.cell? ⟨gb601, 3, none⟩ = some (.int .i64 a0_3) := (blk_cell BK601.out 3).trans rfl
      have hcz24_4 : wc.cell? ⟨gb601, 4, none⟩ = some (.string a0_4) := (blk_cell BK601.out 4).trans rfl
      have hcz24_5 : wc.cell? ⟨gb601, 5, none⟩ = some (.int .i64 a0_5) := (blk_cell BK601.out 5).trans rfl
      have hcz24_6 : wc.cell? ⟨gb601, 6, none⟩ = some (.slice A0_6 l0_6.length c0_6) := (blk_cell BK601.out 6).trans rfl
      have hfz24_0 := blk_frozen BK601.out 0
      have hfz24_1 := blk_frozen BK601.out 1
      have hfz24_2 := blk_frozen BK601.out 2
      have hfz24_3 := blk_frozen BK601.out 3
      have hfz24_4 := blk_frozen BK601.out 4
      have hfz24_5 := blk_frozen BK601.out 5
      have hfz24_6 := blk_frozen BK601.out 6
      go_wp2
      go_ret
      exact ⟨by first | rfl | (simp [errW_none, errW_some] <;> rfl) | (simp [*, errW_none, errW_some] <;> rfl), by repeat (first | (with_reducible first | exact HB.out | apply below_alloc | apply pw_below_drewN | apply below_drew1 | refine below_set ?_ GE601.out) | exact HB.out)⟩
    ·rw [if_neg c21] at H
     have c21b0 : (a0_0 == 1) = false := beq_eq_false_iff_ne.mpr c21
     have c21b1 : (a0_0 != 1) = true := bne_iff_ne.mpr c21
     by_cases c25 : a0_0 = 2
     ·rw [if_pos c25] at H
      have c25b0 : (a0_0 == 2) = true := beq_iff_eq.mpr c25
      have c25b1 : (a0_0 != 2) = false := bne_eq_false_iff_eq.mpr c25
      clear c25
      by_cases c26 : a0_5 < a0_3
      ·rw [if_pos c26] at H
       have c26b0 : decide (a0_5 < a0_3) = true := decide_eq_true c26
       clear c26
       obtain rfl := Option.some.inj H
       have hcz27_0 : wc.cell? ⟨gb601, 0, none⟩ = some (.int .i64 a0_0) := (blk_cell BK601.out 0).trans rfl
       have hcz27_1 : wc.cell? ⟨gb601, 1, none⟩ = some (.int .i64 a0_1) := (blk_cell BK601.out 1).trans rfl
       have hcz27_2 : wc.cell? ⟨gb601, 2, none⟩ = some (.int .i64 a0_2) := (blk_cell BK601.out 2).trans rfl
       have hcz27_3 : wc.cell? ⟨gb601, 3, none⟩ = some (.int .i64 a0_3) := (blk_cell BK601.out 3).trans rfl
       have hcz27_4 : wc.cell? ⟨gb601, 4, none⟩ = some (.string a0_4) := (blk_cell BK601.out 4).trans rfl
       have hcz27_5 : wc.cell? ⟨gb601, 5, none⟩ = some (.int .i64 a0_5) := (blk_cell BK601.out 5).trans rfl
       have hcz27_6 : wc.cell? ⟨gb601, 6, none⟩ = some (.slice A0_6 l0_6.length c0_6) := (blk_cell BK601.out 6).trans rfl
       have hfz27_0 := blk_frozen BK601.out 0
       have hfz27_1 := blk_frozen BK601.out 1
       have hfz27_2 := blk_frozen BK601.out 2
       have hfz27_3 := blk_frozen BK601.out 3
       have hfz27_4 := blk_frozen BK601.out 4
       have hfz27_5 := blk_frozen BK601.out 5
       have hfz27_6 := blk_frozen BK601.out 6
       go_wp2
       go_ret
       exact ⟨by first | rfl | (simp [errW_none, errW_some] <;> rfl) | (simp [*, errW_none, errW_some] <;> rfl), by repeat (first | (with_reducible first | exact HB.out | apply below_alloc | apply pw_below_drewN | apply below_drew1 | refine below_set ?_ GE601.out) | exact HB.out)⟩
      ·rw [if_neg c26] at H
       have c26b0 : decide (a0_5 < a0_3) = false := decide_eq_false c26
       clear c26
       obtain rfl := Option.some.inj H
       have hcz28_0 : wc.cell? ⟨gb601, 0, none⟩ = some (.int .i64 a0_0) := (blk_cell BK601.out 0).trans rfl
       have hcz28_1 : wc.cell? ⟨gb601, 1, none⟩ = some (.int .i64 a0_1) := (blk_cell BK601.out 1).trans rfl
       have hcz28_2 : wc.cell? ⟨gb601, 2, none⟩ = some (.int .i64 a0_2) := (blk_cell BK601.out 2).trans rfl
       have hcz28_3 : wc.cell? ⟨gb601, 3, none⟩ = some (.int .i64 a0_3) := (blk_cell BK601.out 3).trans rfl
       have hcz28_4 : wc.cell? ⟨gb601, 4, none⟩ = some (.string a0_4) := (blk_cell BK601.out 4).trans rfl
       have hcz28_5 : wc.cell? ⟨gb601, 5, none⟩ = some (.int .i64 a0_5) := (blk_cell BK601.out 5).trans rfl
       have hcz28_6 : wc.cell? ⟨gb601, 6, none⟩ = some (.slice A0_6 l0_6.length c0_6) := (blk_cell BK601.out 6).trans rfl
       have hfz28_0 := blk_frozen BK601.out 0
       have hfz28_1 := blk_frozen BK601.out 1
       have hfz28_2 := blk_frozen BK601.out 2
       have hfz28_3 := blk_frozen BK601.out 3
       have hfz28_4 := blk_frozen BK601.out 4
       have hfz28_5 := blk_frozen BK601.out 5
       have hfz28_6 := blk_frozen BK601.out 6
       go_wp2
       go_ret
       exact ⟨by first | rfl | (simp [errW_none, errW_some] <;> rfl) | (simp [*, errW_none, errW_some] <;> rfl), by repeat (first | (with_reducible first | exact HB.out | apply below_alloc | apply pw_below_drewN | apply below_drew1 | refine below_set ?_ GE601.out) | exact HB.out)⟩
     ·rw [if_neg c25] at H
      have c25b0 : (a0_0 == 2) = false := beq_eq_false_iff_ne.mpr c25
      have c25b1 : (a0_0 != 2) = true := bne_iff_ne.mpr c25
      by_cases c29 : a0_0 = 3
      ·rw [if_pos c29] at H
       have c29b0 : (a0_0 == 3) = true := beq_iff_eq.mpr c29
       have c29b1 : (a0_0 != 3) = false := bne_eq_false_iff_eq.mpr c29
       clear c29
       by_cases c30 : a0_5 < a0_3
       ·rw [if_pos c30] at H
        have c30b0 : decide (a0_5 < a0_3) = true := decide_eq_true c30
        clear c30
        obtain rfl := Option.some.inj H
        have hcz31_0 : wc.cell? ⟨gb601, 0, none⟩ = some (.int .i64 a0_0) := (blk_cell BK601.out 0).trans rfl
        have hcz31_1 : wc.cell? ⟨gb601, 1, none⟩ = some (.int .i64 a0_1) := (blk_cell BK601.out 1).trans rfl
        have hcz31_2 : wc.cell? ⟨gb601, 2, none⟩ = some (.int .i64 a0_2) := (blk_cell BK601.out 2).trans rfl
        have hcz31_3 : wc.cell? ⟨gb601, 3, none⟩ = some (.int .i64 a0_3) := (blk_cell BK601.out 3).trans rfl
        have hcz31_4 : wc.cell? ⟨gb601, 4, none⟩ = some (.string a0_4) := (blk_cell BK601.out 4).trans rfl
        have hcz31_5 : wc.cell? ⟨gb601, 5, none⟩ = some (.int .i64 a0_5) := (blk_cell BK601.out 5).trans rfl
        have hcz31_6 : wc.cell? ⟨gb601, 6, none⟩ = some (.slice A0_6 l0_6.length c0_6) := (blk_cell BK601.out 6).trans rfl
        have hfz31_0 := blk_frozen BK601.out 0
        have hfz31_1 := blk_frozen BK601.out 1
        have hfz31_2 := blk_frozen BK601.out 2
        have hfz31_3 := blk_frozen BK601.out 3
        have hfz31_4 := blk_frozen BK601.out 4
        have hfz31_5 := blk_frozen BK601.out 5
        have hfz31_6 := blk_frozen BK601.out 6
        go_wp2
        go_ret
        exact ⟨by first | rfl | (simp [errW_none, errW_some] <;> rfl) | (simp [*, errW_none, errW_some] <;> rfl), by repeat (first | (with_reducible first | exact HB.out | apply below_alloc | apply pw_below_drewN | apply below_drew1 | refine below_set ?_ GE601.out) | exact HB.out)⟩
       ·rw [if_neg c30] at H
        have c30b0 : decide (a0_5 < a0_3) = false := decide_eq_false c30
        clear c30
        obtain rfl := Option.some.inj H
        have hcz32_0 : wc.cell? ⟨gb601, 0, none⟩ = some (.int .i64 a0_0) := (blk_cell BK601.out 0).trans rfl
        have hcz32_1 : wc.cell? ⟨gb601, 1, none⟩ = some (.int .i64 a0_1) := (blk_cell BK601.out 1).trans rfl
        have hcz32_2 : wc.cell? ⟨gb601, 2, none⟩ = some (.int .i64 a0_2) := (blk_cell BK601.out 2).trans rfl
        have hcz32_3 : wc.cell? ⟨gb601, 3, none⟩ = some (.int .i64 a0_3) := (blk_cell BK601.out 3).trans rfl
        have hcz32_4 : wc.cell? ⟨gb601, 4, none⟩ = some (.string a0_4) := (blk_cell BK601.out 4).trans rfl
        have hcz32_5 : wc.cell? ⟨gb601, 5, none⟩ = some (.int .i64 a0_5) := (blk_cell BK601.out 5).trans rfl
        have hcz32_6 : wc.cell? ⟨gb601, 6, none⟩ = some (.slice A0_6 l0_6.length c0_6) := (blk_cell BK601.out 6).trans rfl
        have hfz32_0 := blk_frozen BK601.out 0
        have hfz32_1 := blk_frozen BK601.out 1
        have hfz32_2 := blk_frozen BK601.out 2
        have hfz32_3 := blk_frozen BK601.out 3
        have hfz32_4 := blk_frozen BK601.out 4
        have hfz32_5 := blk_frozen BK601.out 5
        have hfz32_6 := blk_frozen BK601.out 6
        go_wp2
        go_ret
        exact ⟨by first | rfl | (simp [errW_none, errW_some] <;> rfl) | (simp [*, errW_none, errW_some] <;> rfl), by repeat (first | (with_reducible first | exact HB.out | apply below_alloc | apply pw_below_drewN | apply below_drew1 | refine below_set ?_ GE601.out) | exact HB.out)⟩
      ·rw [if_neg c29] at H
       have c29b0 : (a0_0 == 3) = false := beq_eq_false_iff_ne.mpr c29
       have c29b1 : (a0_0 != 3) = true := bne_iff_ne.mpr c29
       obtain rfl := Option.some.inj H
       have hcz33_0 : wc.cell? ⟨gb601, 0, none⟩ = some (.int .i64 a0_0) := (blk_cell BK601.out 0).trans rfl
       have hcz33_1 : wc.cell? ⟨gb601, 1, none⟩ = some (.int .i64 a0_1) := (blk_cell BK601.out 1).trans rfl
       have hcz33_2 : wc.cell? ⟨gb601, 2, none⟩ = some (.int .i64 a0_2) := (blk_cell BK601.out 2).trans rfl
       have hcz33_3 : wc.cell? ⟨gb601, 3, none⟩ = some (.int .i64 a0_3) := (blk_cell BK601.out 3).trans rfl
       have hcz33_4 : wc.cell? ⟨gb601, 4, none⟩ = some (.string a0_4) := (blk_cell BK601.out 4).trans rfl
       have hcz33_5 : wc.cell? ⟨gb601, 5, none⟩ = some (.int .i64 a0_5) := (blk_cell BK601.out 5).trans rfl
       have hcz33_6 : wc.cell? ⟨gb601, 6, none⟩ = some (.slice A0_6 l0_6.length c0_6) := (blk_cell BK601.out 6).trans rfl
       have hfz33_0 := blk_frozen BK601.out 0
       have hfz33_1 := blk_frozen BK601.out 1
       have hfz33_2 := blk_frozen BK601.out 2
       have hfz33_3 := blk_frozen BK601.out 3
       have hfz33_4 := blk_frozen BK601.out 4
       have hfz33_5 := blk_frozen BK601.out 5
       have hfz33_6 := blk_frozen BK601.out 6
       go_wp2
       go_ret
       exact ⟨by first | rfl | (simp [errW_none, errW_some] <;> rfl) | (simp [*, errW_none, errW_some] <;> rfl), by repeat (first | (with_reducible first | exact HB.out | apply below_alloc | apply pw_below_drewN | apply below_drew1 | refine below_set ?_ GE601.out) | exact HB.out)⟩

end Go.Proofs.Ytcogimnpffnanaa.Q
end

section
-- Written by a program of this session (wip/tools/pp.sh) over the print of the kit.
namespace Go.Proofs.Ytcogimnpffnanaa.Q
open Go.RowKit Go.Proofs.YtcogimnpffnanaaW.PrintWords Go.Proofs.YtcogimnpffnanaaW.PrintLast Go.Proofs.YtcogimnpffnanaaW.PrintMore
attribute [local go_sem] max2_int min2_int max_two min_two max_three min_three max_four min_four   -- for this text's walks alone
set_option linter.unusedVariables false
set_option linter.unusedSimpArgs false

end Go.Proofs.Ytcogimnpffnanaa.Q
end

section
-- Written by a program of this session (wip/tools/pp.sh) over the print of the kit.
namespace Go.Proofs.Ytcogimnpffnanaa.Q
open Go.RowKit Go.Proofs.YtcogimnpffnanaaW.PrintWords Go.Proofs.YtcogimnpffnanaaW.PrintLast Go.Proofs.YtcogimnpffnanaaW.PrintMore
attribute [local go_sem] max2_int min2_int max_two min_two max_three min_three max_four min_four   -- for this text's walks alone
set_option linter.unusedVariables false
set_option linter.unusedSimpArgs false

/-! ### spec_PutMsg: function 18 -/
def spec_PutMsg.f (k : Nat) (a0_0 : Int) (a0_1 : Int) (a0_2 : Int) (a0_3 : Int) (a0_4 : ByteArray) (a0_5 : Int) (l0_6 : List ByteArray) : Option (List Int) := (spec_MsgOk.f k a0_0 a0_1 a0_2 a0_3 a0_4 a0_5 l0_6).bind fun t602 => (if t602 = true then ((spec_PutNum.f k (([] : List Int)) a0_0).bind fun t609 => ((spec_PutNum.f k t609 a0_1).bind fun t612 => ((spec_PutNum.f k t612 a0_2).bind fun t615 => ((spec_PutNum.f k t615 a0_3).bind fun t618 => ((spec_PutText.f k t618 a0_4).bind fun t621 => ((spec_PutNum.f k t621 a0_5).bind fun t624 => ((spec_PutTexts.f k t624 l0_6).bind fun t627 => (some t627)))))))) else (some (([] : List Int))))
theorem spec_PutMsg.mono : ∀ a0 a1 a2 a3 a4 a5 a6 k, LeO (spec_PutMsg.f k a0 a1 a2 a3 a4 a5 a6) (spec_PutMsg.f (k + 1) a0 a1 a2 a3 a4 a5 a6) := by
 intro a0 a1 a2 a3 a4 a5 a6 k
 unfold spec_PutMsg.f
 repeat' first
   | (with_reducible exact spec_MsgOk.mono _ _ _ _ _ _ _ _)
   | (with_reducible exact spec_PutNum.mono _ _ _)
   | (with_reducible exact spec_PutText.mono _ _ _)
   | (with_reducible exact spec_PutTexts.mono _ _ _)
   | (with_reducible exact LeO.refl _)
   | (with_reducible exact LeO.none _)
   | (with_reducible refine LeO.ite ?_ ?_)
   | (with_reducible refine LeO.bind ?_ (fun _ => ?_))
   | exact spec_MsgOk.mono _ _ _ _ _ _ _ _
   | exact spec_PutNum.mono _ _ _
   | exact spec_PutText.mono _ _ _
   | exact spec_PutTexts.mono _ _ _
   | exact LeO.none _
   | refine LeO.ite ?_ ?_
   | refine LeO.bind ?_ (fun _ => ?_)
def spec_PutMsg.T3 : Bool × List (List Nat × List Nat) := (true, [([], []), ([], []), ([1], [1]), ([0, 2], [0, 2]), ([], []), ([4], [4]), ([3, 5, 3], [3, 5]), ([], []), ([7], [7]), ([6, 8, 6], [6, 8]), ([], []), ([10], [10]), ([11], [11]), ([9, 12, 9], [9, 12]), ([13, 13, 0, 1, 2, 3, 4, 5, 6, 7, 8, 9, 10, 11, 12, 13], [13])])
def spec_PutMsg.B3 : List Nat := [0, 0, 2, 7, 0, 16, 63, 0, 128, 511, 0, 1024, 3072, 8191, 16383]
theorem spec_PutMsg.tab3 : rtab .any (opsOf Try.f18 3) = spec_PutMsg.T3 := by kernel_rfl
theorem spec_PutMsg.bits3 : waitsOk spec_PutMsg.T3.2 spec_PutMsg.B3 = true := by kernel_rfl
def spec_PutMsg.T4 : Bool × List (List Nat × List Nat) := (true, [([], []), ([], []), ([1], [1]), ([2], [2]), ([0, 3], [0, 3]), ([], []), ([5], [5]), ([4, 6, 4], [4, 6]), ([], []), ([8], [8]), ([7, 9, 7], [7, 9]), ([10, 10, 0, 1, 2, 3, 4, 5, 6, 7, 8, 9, 10], [10])])
def spec_PutMsg.B4 : List Nat := [0, 0, 2, 6, 15, 0, 32, 127, 0, 256, 1023, 2047]
theorem spec_PutMsg.tab4 : rtab .any (opsOf Try.f18 4) = spec_PutMsg.T4 := by kernel_rfl
theorem spec_PutMsg.bits4 : waitsOk spec_PutMsg.T4.2 spec_PutMsg.B4 = true := by kernel_rfl
set_option maxHeartbeats 8000000 in
set_option maxRecDepth 100000 in
theorem spec_PutMsg.calls (k : Nat) (a0_0 : Int) (a0_1 : Int) (a0_2 : Int) (a0_3 : Int) (a0_4 : ByteArray) (a0_5 : Int) (A0_6 : Option Addr) (c0_6 : Nat) (l0_6 : List ByteArray) (r : List Int) (w : World) (hr0_6 : Kd.C Kd.string w A0_6 l0_6.length l0_6) (hc0_6 : l0_6.length ≤ c0_6) (h : spec_PutMsg.f k a0_0 a0_1 a0_2 a0_3 a0_4 a0_5 l0_6 = some r) :
  Calls Try.prog 18 #[.agg #[.int .i64 a0_0, .int .i64 a0_1, .int .i64 a0_2, .int .i64 a0_3, .string a0_4, .int .i64 a0_5, .slice A0_6 l0_6.length c0_6]] w fun e w' => ∃ v0_ : Value, e = .returned (v0_) ∧ Kd.R (Kd.int .u8) 5 w' w.heap.size (fun _ => True) v0_ r ∧ Below w.heap.size w w' := by
 have hu33 := Try.underlying33
 have HR0_6 := Aside0.mk hr0_6
 have HC0_6 := Aside0.mk hc0_6
 clear hr0_6 hc0_6
 have HB := Aside0.mk (Below.refl w.heap.size w)
 have H : ((spec_MsgOk.f k a0_0 a0_1 a0_2 a0_3 a0_4 a0_5 l0_6).bind fun t602 => (if t602 = true then ((spec_PutNum.f k (([] : List Int)) a0_0).bind fun t609 => ((spec_PutNum.f k t609 a0_1).bind fun t612 => ((spec_PutNum.f k t612 a0_2).bind fun t615 => ((spec_PutNum.f k t615 a0_3).bind fun t618 => ((spec_PutText.f k t618 a0_4).bind fun t621 => ((spec_PutNum.f k t621 a0_5).bind fun t624 => ((spec_PutTexts.f k t624 l0_6).bind fun t627 => (some t627)))))))) else (some (([] : List Int))))) = some r := h
 clear h
 replace H := Option.bind_eq_some_iff.mp H
 obtain ⟨t602, A20, H⟩ := H
 replace H : (if t602 = true then ((spec_PutNum.f k (([] : List Int)) a0_0).bind fun t609 => ((spec_PutNum.f k t609 a0_1).bind fun t612 => ((spec_PutNum.f k t612 a0_2).bind fun t615 => ((spec_PutNum.f k t615 a0_3).bind fun t618 => ((spec_PutText.f k t618 a0_4).bind fun t621 => ((spec_PutNum.f k t621 a0_5).bind fun t624 => ((spec_PutTexts.f k t624 l0_6).bind fun t627 => (some t627)))))))) else (some (([] : List Int)))) = some r := H
 have A2 := Aside0.mk A20
 clear A20
 by_cases c3 : t602 = true
 ·subst c3
  have H1 : ((spec_PutNum.f k (([] : List Int)) a0_0).bind fun t609 => ((spec_PutNum.f k t609 a0_1).bind fun t612 => ((spec_PutNum.f k t612 a0_2).bind fun t615 => ((spec_PutNum.f k t615 a0_3).bind fun t618 => ((spec_PutText.f k t618 a0_4).bind fun t621 => ((spec_PutNum.f k t621 a0_5).bind fun t624 => ((spec_PutTexts.f k t624 l0_6).bind fun t627 => (some t627)))))))) = some r := by rw [if_pos rfl] at H; exact H
  clear H
  have H := H1
  clear H1
  obtain ⟨y606, hy606⟩ : ∃ y_ : List Int, y_ = (([] : List Int)) := ⟨_, rfl⟩
  replace H : ((spec_PutNum.f k y606 a0_0).bind fun t609 => ((spec_PutNum.f k t609 a0_1).bind fun t612 => ((spec_PutNum.f k t612 a0_2).bind fun t615 => ((spec_PutNum.f k t615 a0_3).bind fun t618 => ((spec_PutText.f k t618 a0_4).bind fun t621 => ((spec_PutNum.f k t621 a0_5).bind fun t624 => ((spec_PutTexts.f k t624 l0_6).bind fun t627 => (some t627)))))))) = some r := by first | (rw [hy606]; with_reducible exact H) | (have H2_ := (Option.bind_some _ _).symm.trans H; rw [hy606]; with_reducible exact H2_) | (have H2_ := (Option.bind_some _ _).symm.trans H; with_reducible exact H2_) | with_reducible exact H | (rw [hy606]; exact H) | exact H
  have Ny606 := Aside0.mk hy606
  clear hy606
  replace H := Option.bind_eq_some_iff.mp H
  obtain ⟨t609, A40, H⟩ := H
  replace H : ((spec_PutNum.f k t609 a0_1).bind fun t612 => ((spec_PutNum.f k t612 a0_2).bind fun t615 => ((spec_PutNum.f k t615 a0_3).bind fun t618 => ((spec_PutText.f k t618 a0_4).bind fun t621 => ((spec_PutNum.f k t621 a0_5).bind fun t624 => ((spec_PutTexts.f k t624 l0_6).bind fun t627 => (some t627))))))) = some r := H
  have A4 := Aside0.mk A40
  clear A40
  replace H := Option.bind_eq_some_iff.mp H
  obtain ⟨t612, A50, H⟩ := H
  replace H : ((spec_PutNum.f k t612 a0_2).bind fun t615 => ((spec_PutNum.f k t615 a0_3).bind fun t618 => ((spec_PutText.f k t618 a0_4).bind fun t621 => ((spec_PutNum.f k t621 a0_5).bind fun t624 => ((spec_PutTexts.f k t624 l0_6).bind fun t627 => (some t627)))))) = some r := H
  have A5 := Aside0.mk A50
  clear A50
  replace H := Option.bind_eq_some_iff.mp H
  obtain ⟨t615, A60, H⟩ := H
  replace H : ((spec_PutNum.f k t615 a0_3).bind fun t618 => ((spec_PutText.f k t618 a0_4).bind fun t621 => ((spec_PutNum.f k t621 a0_5).bind fun t624 => ((spec_PutTexts.f k t624 l0_6).bind fun t627 => (some t627))))) = some r := H
  have A6 := Aside0.mk A60
  clear A60
  replace H := Option.bind_eq_some_iff.mp H
  obtain ⟨t618, A70, H⟩ := H
  replace H : ((spec_PutText.f k t618 a0_4).bind fun t621 => ((spec_PutNum.f k t621 a0_5).bind fun t624 => ((spec_PutTexts.f k t624 l0_6).bind fun t627 => (some t627)))) = some r := H
  have A7 := Aside0.mk A70
  clear A70
  replace H := Option.bind_eq_some_iff.mp H
  obtain ⟨t621, A80, H⟩ := H
  replace H : ((spec_PutNum.f k t621 a0_5).bind fun t624 => ((spec_PutTexts.f k t624 l0_6).bind fun t627 => (some t627))) = some r := H
  have A8 := Aside0.mk A80
  clear A80
  replace H := Option.bind_eq_some_iff.mp H
  obtain ⟨t624, A90, H⟩ := H
  replace H : ((spec_PutTexts.f k t624 l0_6).bind fun t627 => (some t627)) = some r := H
  have A9 := Aside0.mk A90
  clear A90
  replace H := Option.bind_eq_some_iff.mp H
  obtain ⟨t627, A100, H⟩ := H
  replace H : (some t627) = some r := H
  have A10 := Aside0.mk A100
  clear A100
  obtain rfl := Option.some.inj H
  go_enter Try.func18, Try.ntmps18
  try go_wp2_with (first | ((with_reducible refine gate_dst (N := 1) rfl ?_); refine box_event ?hg (N := 1) ?hd (cs := #[.int .i64 a0_0, .int .i64 a0_1, .int .i64 a0_2, .int .i64 a0_3, .string a0_4, .int .i64 a0_5, .slice A0_6 l0_6.length c0_6]) (t := 33) ?hr ?_; (case hd => rfl); (case hg => rfl); (case hr => first | (go_simp; done) | (go_simp; rfl)); intro gb601 hg w11 hbox hb; have n0_ := Aside0.mk (below_step (by repeat (first | (with_reducible first | exact HB.out | apply below_alloc | apply pw_below_drewN | apply below_drew1) | exact HB.out)) hb); have n1_ := Aside0.mk (hbox); have n2_ := Aside0.mk ((by rw [hg]; exact (below_size (by repeat (first | (with_reducible first | exact HB.out | apply below_alloc | apply pw_below_drewN | apply below_drew1) | exact HB.out))) : w.heap.size ≤ gb601)); have n3_ := Aside0.mk ((by rw [hg]; exact (below_size (by repeat (first | (with_reducible first | exact HB.out | apply below_alloc | apply pw_below_drewN | apply below_drew1) | exact HB.out))) : w.heap.size ≤ gb601)); clear HB; have HB := n0_; have BK601 := n1_; have GW601 := n2_; have GE601 := n3_; clear n0_ n1_ n2_ n3_; clear hb hbox hg; have hcz12_0 : w11.cell? ⟨gb601, 0, none⟩ = some (.int .i64 a0_0) := (blk_cell BK601.out 0).trans rfl; have hcz12_1 : w11.cell? ⟨gb601, 1, none⟩ = some (.int .i64 a0_1) := (blk_cell BK601.out 1).trans rfl; have hcz12_2 : w11.cell? ⟨gb601, 2, none⟩ = some (.int .i64 a0_2) := (blk_cell BK601.out 2).trans rfl; have hcz12_3 : w11.cell? ⟨gb601, 3, none⟩ = some (.int .i64 a0_3) := (blk_cell BK601.out 3).trans rfl; have hcz12_4 : w11.cell? ⟨gb601, 4, none⟩ = some (.string a0_4) := (blk_cell BK601.out 4).trans rfl; have hcz12_5 : w11.cell? ⟨gb601, 5, none⟩ = some (.int .i64 a0_5) := (blk_cell BK601.out 5).trans rfl; have hcz12_6 : w11.cell? ⟨gb601, 6, none⟩ = some (.slice A0_6 l0_6.length c0_6) := (blk_cell BK601.out 6).trans rfl; have hfz12_0 := blk_frozen BK601.out 0; have hfz12_1 := blk_frozen BK601.out 1; have hfz12_2 := blk_frozen BK601.out 2; have hfz12_3 := blk_frozen BK601.out 3; have hfz12_4 := blk_frozen BK601.out 4; have hfz12_5 := blk_frozen BK601.out 5; have hfz12_6 := blk_frozen BK601.out 6) | ((with_reducible refine gate_callee (f := 73) rfl ?_); refine goesL_ (some 5) rfl rfl Try.func73 (by kernel_rfl) rfl #[.agg #[.int .i64 a0_0, .int .i64 a0_1, .int .i64 a0_2, .int .i64 a0_3, .string a0_4, .int .i64 a0_5, .slice A0_6 l0_6.length c0_6]] rfl (by (try simp only [List.map_toArray, List.map_cons, List.map_nil]); first | done | rfl | (simp only [List.length_drop, List.length_take]; rfl)) ?_; (with_reducible refine (spec_MsgOk.calls k a0_0 a0_1 a0_2 a0_3 a0_4 a0_5 _ _ l0_6 true _ ?side1 ?side2 A2.out).mono ?_); (case side1 => repeat (first | exact (Kd.C_below HR0_6.out HB.out) | (with_reducible refine Kd.C_alloc ?_ _) | (with_reducible refine Kd.C_drewN ?_ _) | (with_reducible refine Kd.C_drew ?_))); (case side2 => exact HC0_6.out); rintro e w13 ⟨rfl, hb⟩; refine ⟨_, rfl, ?_⟩; have n0_ := Aside0.mk (blk_below (g := gb601) (o := .cells #[.int .i64 a0_0, .int .i64 a0_1, .int .i64 a0_2, .int .i64 a0_3, .string a0_4, .int .i64 a0_5, .slice A0_6 l0_6.length c0_6] 33 (0, 0)) (by (with_reducible repeat (first | refine blk_drewN ?_ _ | refine blk_drew ?_ | refine blk_alloc ?_ _)); exact BK601.out) hb); have n1_ := Aside0.mk (below_step (by repeat (first | (with_reducible first | exact HB.out | apply below_alloc | apply pw_below_drewN | apply below_drew1 | refine below_set ?_ GE601.out) | exact HB.out)) hb); clear BK601; clear HB; have BK601 := n0_; have HB := n1_; clear n0_ n1_; (try clear hb); (try clear hb2); (try clear hk); (try clear hi)))
  have n0_ := Aside0.mk (blk_drew BK601.out)
  have n1_ := Aside0.mk (below_drew1 HB.out)
  clear BK601
  clear HB
  have BK601 := n0_
  have HB := n1_
  clear n0_ n1_
  refine start_ (n := 15) (S := fun w' => w'.cell? ⟨gb601, 0, none⟩ = some (.int .i64 a0_0) ∧ w'.cell? ⟨gb601, 1, none⟩ = some (.int .i64 a0_1) ∧ w'.cell? ⟨gb601, 2, none⟩ = some (.int .i64 a0_2) ∧ w'.cell? ⟨gb601, 3, none⟩ = some (.int .i64 a0_3) ∧ w'.cell? ⟨gb601, 4, none⟩ = some (.string a0_4) ∧ w'.cell? ⟨gb601, 5, none⟩ = some (.int .i64 a0_5) ∧ w'.cell? ⟨gb601, 6, none⟩ = some (.slice A0_6 l0_6.length c0_6)) (ds := []) #[false, false, false, false, false, false, false, false, false, false, false, false, false, false, false] (by kernel_rfl) rfl rfl ⟨(blk_cell BK601.out 0).trans rfl, (blk_cell BK601.out 1).trans rfl, (blk_cell BK601.out 2).trans rfl, (blk_cell BK601.out 3).trans rfl, (blk_cell BK601.out 4).trans rfl, (blk_cell BK601.out 5).trans rfl, (blk_cell BK601.out 6).trans rfl⟩ (fun hHeld => ?_); refine with_tabW spec_PutMsg.tab3 spec_PutMsg.bits3 (fun HT_ HW_ => ?_)
  generalize w13.drew = w14 at BK601 HB hHeld ⊢
  refine pure_ (i := 1) (N := some 9) (v := ?_) (a' := ?_) #[false, true, false, false, false, false, false, false, false, false, false, false, false, false, false] rfl rfl (any_of HT_.out (by kernel_rfl)) (fun _ _ _ h => h) (Or.inl ⟨by rfl, ?_⟩) ?_ ?_
  rotate_left
  ·intro w'
   go_simp
   with_reducible rfl
  rotate_left
  ·simp only [Act.put, List.setIfInBounds_toArray, List.set_cons_zero, List.set_cons_succ, i64_w, i32_w]
   rfl
  refine pure_ (i := 4) (N := some 12) (v := ?_) (a' := ?_) #[false, true, false, false, true, false, false, false, false, false, false, false, false, false, false] rfl rfl (any_of HT_.out (by kernel_rfl)) (fun _ _ _ h => h) (Or.inl ⟨by rfl, ?_⟩) ?_ ?_
  rotate_left
  ·intro w'
   go_simp
   with_reducible rfl
  rotate_left
  ·simp only [Act.put, List.setIfInBounds_toArray, List.set_cons_zero, List.set_cons_succ, i64_w, i32_w]
   rfl
  refine pure_ (i := 7) (N := some 15) (v := ?_) (a' := ?_) #[false, true, false, false, true, false, false, true, false, false, false, false, false, false, false] rfl rfl (any_of HT_.out (by kernel_rfl)) (fun _ _ _ h => h) (Or.inl ⟨by rfl, ?_⟩) ?_ ?_
  rotate_left
  ·intro w'
   go_simp
   with_reducible rfl
  rotate_left
  ·simp only [Act.put, List.setIfInBounds_toArray, List.set_cons_zero, List.set_cons_succ, i64_w, i32_w]
   rfl
  refine pure_ (i := 10) (N := some 18) (v := ?_) (a' := ?_) #[false, true, false, false, true, false, false, true, false, false, true, false, false, false, false] rfl rfl (any_of HT_.out (by kernel_rfl)) (fun _ _ _ h => h) (Or.inl ⟨by rfl, ?_⟩) ?_ ?_
  rotate_left
  ·intro w'
   go_simp
   with_reducible rfl
  rotate_left
  ·simp only [Act.put, List.setIfInBounds_toArray, List.set_cons_zero, List.set_cons_succ, i64_w, i32_w]
   rfl
  refine pure_ (i := 11) (N := some 19) (v := ?_) (a' := ?_) #[false, true, false, false, true, false, false, true, false, false, true, true, false, false, false] rfl rfl (any_of HT_.out (by kernel_rfl)) (fun _ _ _ h => h) (Or.inl ⟨by rfl, ?_⟩) ?_ ?_
  rotate_left
  ·intro w'
   go_simp
   with_reducible rfl
  rotate_left
  ·simp only [Act.put, List.setIfInBounds_toArray, List.set_cons_zero, List.set_cons_succ, i64_w, i32_w]
   rfl
  refine take_ (i := 2) (N := some 10) (v := ?_) (a' := ?_) #[false, true, true, false, true, false, false, true, false, false, true, true, false, false, false] rfl rfl (take_ofW HT_.out HW_.out (by kernel_rfl)) (fun _ _ _ h => h) (Or.inl ⟨by rfl, ?_⟩) hHeld ?_ ?_
  rotate_left
  ·rintro w' ⟨s0, s1, s2, s3, s4, s5, s6⟩
   go_simp
   with_reducible rfl
  rotate_left
  ·simp only [Act.put, List.setIfInBounds_toArray, List.set_cons_zero, List.set_cons_succ, i64_w, i32_w]
   rfl
  refine take_ (i := 5) (N := some 13) (v := ?_) (a' := ?_) #[false, true, true, false, true, true, false, true, false, false, true, true, false, false, false] rfl rfl (take_ofW HT_.out HW_.out (by kernel_rfl)) (fun _ _ _ h => h) (Or.inl ⟨by rfl, ?_⟩) hHeld ?_ ?_
  rotate_left
  ·rintro w' ⟨s0, s1, s2, s3, s4, s5, s6⟩
   go_simp
   with_reducible rfl
  rotate_left
  ·simp only [Act.put, List.setIfInBounds_toArray, List.set_cons_zero, List.set_cons_succ, i64_w, i32_w]
   rfl
  refine take_ (i := 8) (N := some 16) (v := ?_) (a' := ?_) #[false, true, true, false, true, true, false, true, true, false, true, true, false, false, false] rfl rfl (take_ofW HT_.out HW_.out (by kernel_rfl)) (fun _ _ _ h => h) (Or.inl ⟨by rfl, ?_⟩) hHeld ?_ ?_
  rotate_left
  ·rintro w' ⟨s0, s1, s2, s3, s4, s5, s6⟩
   go_simp
   with_reducible rfl
  rotate_left
  ·simp only [Act.put, List.setIfInBounds_toArray, List.set_cons_zero, List.set_cons_succ, i64_w, i32_w]
   rfl
  refine take_ (i := 12) (N := some 20) (v := ?_) (a' := ?_) #[false, true, true, false, true, true, false, true, true, false, true, true, true, false, false] rfl rfl (take_ofW HT_.out HW_.out (by kernel_rfl)) (fun _ _ _ h => h) (Or.inl ⟨by rfl, ?_⟩) hHeld ?_ ?_
  rotate_left
  ·rintro w' ⟨s0, s1, s2, s3, s4, s5, s6⟩
   go_simp
   with_reducible rfl
  rotate_left
  ·simp only [Act.put, List.setIfInBounds_toArray, List.set_cons_zero, List.set_cons_succ, i64_w, i32_w]
   rfl
  refine one_ (i := 0) (N := some 8) #[true, true, true, false, true, true, false, true, true, false, true, true, true, false, false] rfl rfl (one_of HT_.out (by kernel_rfl)) (by decide) (fun K hK => ?_)
  refine Kd.R_lit_step (Kd.int .u8) _ 5 ?hg (N := 8) ?hd (xs := ([] : List Int)) (inner := []) (ok := fun _ => True) (okp := fun _ => True) ?hr ?hp (fun _ hk => hk) trivial (Below.refl _ _) (Nat.le_refl _) (by simp) ?_; (case hd => rfl); (case hg => rfl); (case hr => first | (go_simp; done) | (go_simp; rfl)); (case hp => exact (Reps.none _ _))
  intro v607 w15 ho16 hb hg_ hnew_
  clear hg_ hnew_
  (first | rw [← Ny606.out] at ho16 | (simp only [Int.reduceToNat] at ho16; rw [← Ny606.out] at ho16))
  have n0_ := Aside0.mk (Kd.R_lower ho16 (below_size (by repeat (first | (with_reducible first | exact HB.out | apply below_alloc | apply pw_below_drewN | apply below_drew1 | refine below_set ?_ GE601.out) | exact HB.out))))
  have n1_ := Aside0.mk (blk_below (g := gb601) (o := .cells #[.int .i64 a0_0, .int .i64 a0_1, .int .i64 a0_2, .int .i64 a0_3, .string a0_4, .int .i64 a0_5, .slice A0_6 l0_6.length c0_6] 33 (0, 0)) (by (with_reducible repeat (first | refine blk_drewN ?_ _ | refine blk_drew ?_ | refine blk_alloc ?_ _)); exact BK601.out) hb)
  have n2_ := Aside0.mk (below_step (by repeat (first | (with_reducible first | exact HB.out | apply below_alloc | apply pw_below_drewN | apply below_drew1 | refine below_set ?_ GE601.out) | exact HB.out)) hb)
  clear BK601
  clear HB
  have HO608 := n0_
  have BK601 := n1_
  have HB := n2_
  clear n0_ n1_ n2_
  clear hb ho16
  obtain ⟨Ao17, co17, eo17⟩ := Kd.R_slice HO608.out
  (first | subst eo17 | (injection eo17 with f1_ f2_ f3_; have f4_ := f1_.symm; have f5_ := f3_.symm; clear f1_ f2_ f3_; subst f4_; subst f5_))
  refine hK.out _ _ ⟨(blk_cell BK601.out 0).trans rfl, (blk_cell BK601.out 1).trans rfl, (blk_cell BK601.out 2).trans rfl, (blk_cell BK601.out 3).trans rfl, (blk_cell BK601.out 4).trans rfl, (blk_cell BK601.out 5).trans rfl, (blk_cell BK601.out 6).trans rfl⟩ (fun hHeld => ?_)
  clear hK K
  refine norm_ (a' := ?_) ?_ ?_
  rotate_left
  ·show Act.put _ (some 8) _ = _
   simp only [Act.put, List.setIfInBounds_toArray, List.set_cons_zero, List.set_cons_succ, i64_w, i32_w]
   rfl
  refine one_ (i := 3) (N := some 11) #[true, true, true, true, true, true, false, true, true, false, true, true, true, false, false] rfl rfl (one_of HT_.out (by kernel_rfl)) (by decide) (fun K hK => ?_)
  refine goes_ Try.func95 (by kernel_rfl) rfl #[.slice Ao17 y606.length co17, .int .i64 a0_0] (by rfl) rfl rfl (by (try simp only [List.map_toArray, List.map_cons, List.map_nil]); first | done | rfl | (simp only [List.length_drop, List.length_take]; rfl)) ?_
  with_reducible refine (spec_PutNum.calls k _ _ y606 a0_0 t609 _ ?side1 ?side2 A4.out).mono ?_
  (case side1 => repeat (first | exact (Kd.R_reads' HO608.out).2.2 | (with_reducible refine Kd.C_alloc ?_ _) | (with_reducible refine Kd.C_drewN ?_ _) | (with_reducible refine Kd.C_drew ?_)))
  (case side2 => exact (Kd.R_reads' HO608.out).2.1)
  rintro e w18 ⟨v610, rfl, ho0, hb⟩
  refine ⟨_, rfl, ?_⟩
  have n0_ := Aside0.mk (Kd.R_elder' (by (with_reducible repeat (first | apply Kd.R_alloc | apply Kd.R_drewN | apply Kd.R_drew)); exact HO608.out) (Kd.R_base ho0) hb)
  have n1_ := Aside0.mk (Kd.R_lower (Kd.R_new' ho0 (Kd.R_lt (by (with_reducible repeat (first | apply Kd.R_alloc | apply Kd.R_drewN | apply Kd.R_drew)); exact HO608.out))) (below_size (by repeat (first | (with_reducible first | exact HB.out | apply below_alloc | apply pw_below_drewN | apply below_drew1 | refine below_set ?_ GE601.out) | exact HB.out))))
  have n2_ := Aside0.mk (blk_below (g := gb601) (o := .cells #[.int .i64 a0_0, .int .i64 a0_1, .int .i64 a0_2, .int .i64 a0_3, .string a0_4, .int .i64 a0_5, .slice A0_6 l0_6.length c0_6] 33 (0, 0)) (by (with_reducible repeat (first | refine blk_drewN ?_ _ | refine blk_drew ?_ | refine blk_alloc ?_ _)); exact BK601.out) hb)
  have n3_ := Aside0.mk (below_step (by repeat (first | (with_reducible first | exact HB.out | apply below_alloc | apply pw_below_drewN | apply below_drew1 | refine below_set ?_ GE601.out) | exact HB.out)) hb)
  clear HO608
  clear BK601
  clear HB
  have HO608 := n0_
  have HO611 := n1_
  have BK601 := n2_
  have HB := n3_
  clear n0_ n1_ n2_ n3_
  (try clear hb)
  (try clear hb2)
  (try clear hk)
  (try clear hi)
  (try clear ho0)
  obtain ⟨Ao19, co19, eo19⟩ := Kd.R_slice HO611.out
  (first | subst eo19 | (injection eo19 with f1_ f2_ f3_; have f4_ := f1_.symm; have f5_ := f3_.symm; clear f1_ f2_ f3_; subst f4_; subst f5_))
  refine hK.out _ _ ⟨(blk_cell BK601.out 0).trans rfl, (blk_cell BK601.out 1).trans rfl, (blk_cell BK601.out 2).trans rfl, (blk_cell BK601.out 3).trans rfl, (blk_cell BK601.out 4).trans rfl, (blk_cell BK601.out 5).trans rfl, (blk_cell BK601.out 6).trans rfl⟩ (fun hHeld => ?_)
  clear hK K
  refine norm_ (a' := ?_) ?_ ?_
  rotate_left
  ·show Act.put _ (some 11) _ = _
   simp only [Act.put, List.setIfInBounds_toArray, List.set_cons_zero, List.set_cons_succ, i64_w, i32_w]
   rfl
  refine one_ (i := 6) (N := some 14) #[true, true, true, true, true, true, true, true, true, false, true, true, true, false, false] rfl rfl (one_of HT_.out (by kernel_rfl)) (by decide) (fun K hK => ?_)
  refine goes_ Try.func95 (by kernel_rfl) rfl #[.slice Ao19 t609.length co19, .int .i64 a0_1] (by rfl) rfl rfl (by (try simp only [List.map_toArray, List.map_cons, List.map_nil]); first | done | rfl | (simp only [List.length_drop, List.length_take]; rfl)) ?_
  with_reducible refine (spec_PutNum.calls k _ _ t609 a0_1 t612 _ ?side1 ?side2 A5.out).mono ?_
  (case side1 => repeat (first | exact (Kd.R_reads' HO611.out).2.2 | (with_reducible refine Kd.C_alloc ?_ _) | (with_reducible refine Kd.C_drewN ?_ _) | (with_reducible refine Kd.C_drew ?_)))
  (case side2 => exact (Kd.R_reads' HO611.out).2.1)
  rintro e w20 ⟨v613, rfl, ho0, hb⟩
  refine ⟨_, rfl, ?_⟩
  have n0_ := Aside0.mk (Kd.R_elder' (by (with_reducible repeat (first | apply Kd.R_alloc | apply Kd.R_drewN | apply Kd.R_drew)); exact HO608.out) (Kd.R_base ho0) hb)
  have n1_ := Aside0.mk (Kd.R_elder' (by (with_reducible repeat (first | apply Kd.R_alloc | apply Kd.R_drewN | apply Kd.R_drew)); exact HO611.out) (Kd.R_base ho0) hb)
  have n2_ := Aside0.mk (Kd.R_lower (Kd.R_new' (Kd.R_new' ho0 (Kd.R_lt (by (with_reducible repeat (first | apply Kd.R_alloc | apply Kd.R_drewN | apply Kd.R_drew)); exact HO608.out))) (Kd.R_lt (by (with_reducible repeat (first | apply Kd.R_alloc | apply Kd.R_drewN | apply Kd.R_drew)); exact HO611.out))) (below_size (by repeat (first | (with_reducible first | exact HB.out | apply below_alloc | apply pw_below_drewN | apply below_drew1 | refine below_set ?_ GE601.out) | exact HB.out))))
  have n3_ := Aside0.mk (blk_below (g := gb601) (o := .cells #[.int .i64 a0_0, .int .i64 a0_1, .int .i64 a0_2, .int .i64 a0_3, .string a0_4, .int .i64 a0_5, .slice A0_6 l0_6.length c0_6] 33 (0, 0)) (by (with_reducible repeat (first | refine blk_drewN ?_ _ | refine blk_drew ?_ | refine blk_alloc ?_ _)); exact BK601.out) hb)
  have n4_ := Aside0.mk (below_step (by repeat (first | (with_reducible first | exact HB.out | apply below_alloc | apply pw_below_drewN | apply below_drew1 | refine below_set ?_ GE601.out) | exact HB.out)) hb)
  clear HO608
  clear HO611
  clear BK601
  clear HB
  have HO608 := n0_
  have HO611 := n1_
  have HO614 := n2_
  have BK601 := n3_
  have HB := n4_
  clear n0_ n1_ n2_ n3_ n4_
  (try clear hb)
  (try clear hb2)
  (try clear hk)
  (try clear hi)
  (try clear ho0)
  obtain ⟨Ao21, co21, eo21⟩ := Kd.R_slice HO614.out
  (first | subst eo21 | (injection eo21 with f1_ f2_ f3_; have f4_ := f1_.symm; have f5_ := f3_.symm; clear f1_ f2_ f3_; subst f4_; subst f5_))
  refine hK.out _ _ ⟨(blk_cell BK601.out 0).trans rfl, (blk_cell BK601.out 1).trans rfl, (blk_cell BK601.out 2).trans rfl, (blk_cell BK601.out 3).trans rfl, (blk_cell BK601.out 4).trans rfl, (blk_cell BK601.out 5).trans rfl, (blk_cell BK601.out 6).trans rfl⟩ (fun hHeld => ?_)
  clear hK K
  refine norm_ (a' := ?_) ?_ ?_
  rotate_left
  ·show Act.put _ (some 14) _ = _
   simp only [Act.put, List.setIfInBounds_toArray, List.set_cons_zero, List.set_cons_succ, i64_w, i32_w]
   rfl
  refine one_ (i := 9) (N := some 17) #[true, true, true, true, true, true, true, true, true, true, true, true, true, false, false] rfl rfl (one_of HT_.out (by kernel_rfl)) (by decide) (fun K hK => ?_)
  refine goes_ Try.func95 (by kernel_rfl) rfl #[.slice Ao21 t612.length co21, .int .i64 a0_2] (by rfl) rfl rfl (by (try simp only [List.map_toArray, List.map_cons, List.map_nil]); first | done | rfl | (simp only [List.length_drop, List.length_take]; rfl)) ?_
  with_reducible refine (spec_PutNum.calls k _ _ t612 a0_2 t615 _ ?side1 ?side2 A6.out).mono ?_
  (case side1 => repeat (first | exact (Kd.R_reads' HO614.out).2.2 | (with_reducible refine Kd.C_alloc ?_ _) | (with_reducible refine Kd.C_drewN ?_ _) | (with_reducible refine Kd.C_drew ?_)))
  (case side2 => exact (Kd.R_reads' HO614.out).2.1)
  rintro e w22 ⟨v616, rfl, ho0, hb⟩
  refine ⟨_, rfl, ?_⟩
  have n0_ := Aside0.mk (Kd.R_elder' (by (with_reducible repeat (first | apply Kd.R_alloc | apply Kd.R_drewN | apply Kd.R_drew)); exact HO608.out) (Kd.R_base ho0) hb)
  have n1_ := Aside0.mk (Kd.R_elder' (by (with_reducible repeat (first | apply Kd.R_alloc | apply Kd.R_drewN | apply Kd.R_drew)); exact HO611.out) (Kd.R_base ho0) hb)
  have n2_ := Aside0.mk (Kd.R_elder' (by (with_reducible repeat (first | apply Kd.R_alloc | apply Kd.R_drewN | apply Kd.R_drew)); exact HO614.out) (Kd.R_base ho0) hb)
  have n3_ := Aside0.mk (Kd.R_lower (Kd.R_new' (Kd.R_new' (Kd.R_new' ho0 (Kd.R_lt (by (with_reducible repeat (first | apply Kd.R_alloc | apply Kd.R_drewN | apply Kd.R_drew)); exact HO608.out))) (Kd.R_lt (by (with_reducible repeat (first | apply Kd.R_alloc | apply Kd.R_drewN | apply Kd.R_drew)); exact HO611.out))) (Kd.R_lt (by (with_reducible repeat (first | apply Kd.R_alloc | apply Kd.R_drewN | apply Kd.R_drew)); exact HO614.out))) (below_size (by repeat (first | (with_reducible first | exact HB.out | apply below_alloc | apply pw_below_drewN | apply below_drew1 | refine below_set ?_ GE601.out) | exact HB.out))))
  have n4_ := Aside0.mk (blk_below (g := gb601) (o := .cells #[.int .i64 a0_0, .int .i64 a0_1, .int .i64 a0_2, .int .i64 a0_3, .string a0_4, .int .i64 a0_5, .slice A0_6 l0_6.length c0_6] 33 (0, 0)) (by (with_reducible repeat (first | refine blk_drewN ?_ _ | refine blk_drew ?_ | refine blk_alloc ?_ _)); exact BK601.out) hb)
  have n5_ := Aside0.mk (below_step (by repeat (first | (with_reducible first | exact HB.out | apply below_alloc | apply pw_below_drewN | apply below_drew1 | refine below_set ?_ GE601.out) | exact HB.out)) hb)
  clear HO608
  clear HO611
  clear HO614
  clear BK601
  clear HB
  have HO608 := n0_
  have HO611 := n1_
  have HO614 := n2_
  have HO617 := n3_
  have BK601 := n4_
  have HB := n5_
  clear n0_ n1_ n2_ n3_ n4_ n5_
  (try clear hb)
  (try clear hb2)
  (try clear hk)
  (try clear hi)
  (try clear ho0)
  obtain ⟨Ao23, co23, eo23⟩ := Kd.R_slice HO617.out
  (first | subst eo23 | (injection eo23 with f1_ f2_ f3_; have f4_ := f1_.symm; have f5_ := f3_.symm; clear f1_ f2_ f3_; subst f4_; subst f5_))
  refine hK.out _ _ ⟨(blk_cell BK601.out 0).trans rfl, (blk_cell BK601.out 1).trans rfl, (blk_cell BK601.out 2).trans rfl, (blk_cell BK601.out 3).trans rfl, (blk_cell BK601.out 4).trans rfl, (blk_cell BK601.out 5).trans rfl, (blk_cell BK601.out 6).trans rfl⟩ (fun hHeld => ?_)
  clear hK K
  refine norm_ (a' := ?_) ?_ ?_
  rotate_left
  ·show Act.put _ (some 17) _ = _
   simp only [Act.put, List.setIfInBounds_toArray, List.set_cons_zero, List.set_cons_succ, i64_w, i32_w]
   rfl
  refine one_ (i := 13) (N := some 21) #[true, true, true, true, true, true, true, true, true, true, true, true, true, true, false] rfl rfl (one_of HT_.out (by kernel_rfl)) (by decide) (fun K hK => ?_)
  refine goes_ Try.func95 (by kernel_rfl) rfl #[.slice Ao23 t615.length co23, .int .i64 a0_3] (by rfl) rfl rfl (by (try simp only [List.map_toArray, List.map_cons, List.map_nil]); first | done | rfl | (simp only [List.length_drop, List.length_take]; rfl)) ?_
  with_reducible refine (spec_PutNum.calls k _ _ t615 a0_3 t618 _ ?side1 ?side2 A7.out).mono ?_
  (case side1 => repeat (first | exact (Kd.R_reads' HO617.out).2.2 | (with_reducible refine Kd.C_alloc ?_ _) | (with_reducible refine Kd.C_drewN ?_ _) | (with_reducible refine Kd.C_drew ?_)))
  (case side2 => exact (Kd.R_reads' HO617.out).2.1)
  rintro e w24 ⟨v619, rfl, ho0, hb⟩
  refine ⟨_, rfl, ?_⟩
  have n0_ := Aside0.mk (Kd.R_elder' (by (with_reducible repeat (first | apply Kd.R_alloc | apply Kd.R_drewN | apply Kd.R_drew)); exact HO608.out) (Kd.R_base ho0) hb)
  have n1_ := Aside0.mk (Kd.R_elder' (by (with_reducible repeat (first | apply Kd.R_alloc | apply Kd.R_drewN | apply Kd.R_drew)); exact HO611.out) (Kd.R_base ho0) hb)
  have n2_ := Aside0.mk (Kd.R_elder' (by (with_reducible repeat (first | apply Kd.R_alloc | apply Kd.R_drewN | apply Kd.R_drew)); exact HO614.out) (Kd.R_base ho0) hb)
  have n3_ := Aside0.mk (Kd.R_elder' (by (with_reducible repeat (first | apply Kd.R_alloc | apply Kd.R_drewN | apply Kd.R_drew)); exact HO617.out) (Kd.R_base ho0) hb)
  have n4_ := Aside0.mk (Kd.R_lower (Kd.R_new' (Kd.R_new' (Kd.R_new' (Kd.R_new' ho0 (Kd.R_lt (by (with_reducible repeat (first | apply Kd.R_alloc | apply Kd.R_drewN | apply Kd.R_drew)); exact HO608.out))) (Kd.R_lt (by (with_reducible repeat (first | apply Kd.R_alloc | apply Kd.R_drewN | apply Kd.R_drew)); exact HO611.out))) (Kd.R_lt (by (with_reducible repeat (first | apply Kd.R_alloc | apply Kd.R_drewN | apply Kd.R_drew)); exact HO614.out))) (Kd.R_lt (by (with_reducible repeat (first | apply Kd.R_alloc | apply Kd.R_drewN | apply Kd.R_drew)); exact HO617.out))) (below_size (by repeat (first | (with_reducible first | exact HB.out | apply below_alloc | apply pw_below_drewN | apply below_drew1 | refine below_set ?_ GE601.out) | exact HB.out))))
  have n5_ := Aside0.mk (blk_below (g := gb601) (o := .cells #[.int .i64 a0_0, .int .i64 a0_1, .int .i64 a0_2, .int .i64 a0_3, .string a0_4, .int .i64 a0_5, .slice A0_6 l0_6.length c0_6] 33 (0, 0)) (by (with_reducible repeat (first | refine blk_drewN ?_ _ | refine blk_drew ?_ | refine blk_alloc ?_ _)); exact BK601.out) hb)
  have n6_ := Aside0.mk (below_step (by repeat (first | (with_reducible first | exact HB.out | apply below_alloc | apply pw_below_drewN | apply below_drew1 | refine below_set ?_ GE601.out) | exact HB.out)) hb)
  clear HO608
  clear HO611
  clear HO614
  clear HO617
  clear BK601
  clear HB
  have HO608 := n0_
  have HO611 := n1_
  have HO614 := n2_
  have HO617 := n3_
  have HO620 := n4_
  have BK601 := n5_
  have HB := n6_
  clear n0_ n1_ n2_ n3_ n4_ n5_ n6_
  (try clear hb)
  (try clear hb2)
  (try clear hk)
  (try clear hi)
  (try clear ho0)
  refine hK.out _ _ ⟨(blk_cell BK601.out 0).trans rfl, (blk_cell BK601.out 1).trans rfl, (blk_cell BK601.out 2).trans rfl, (blk_cell BK601.out 3).trans rfl, (blk_cell BK601.out 4).trans rfl, (blk_cell BK601.out 5).trans rfl, (blk_cell BK601.out 6).trans rfl⟩ (fun hHeld => ?_)
  clear hK K
  refine norm_ (a' := ?_) ?_ ?_
  rotate_left
  ·show Act.put _ (some 21) _ = _
   simp only [Act.put, List.setIfInBounds_toArray, List.set_cons_zero, List.set_cons_succ, i64_w, i32_w]
   rfl
  refine pure_ (i := 14) (N := some 3) (v := ?_) (a' := ?_) #[true, true, true, true, true, true, true, true, true, true, true, true, true, true, true] rfl rfl (any_of HT_.out (by kernel_rfl)) (fun _ _ _ h => h) (Or.inl ⟨by rfl, ?_⟩) ?_ ?_
  rotate_left
  ·intro w'
   go_simp
   with_reducible rfl
  rotate_left
  ·simp only [Act.put, List.setIfInBounds_toArray, List.set_cons_zero, List.set_cons_succ, i64_w, i32_w]
   rfl
  refine done_ (done_of HT_.out (by kernel_rfl)) ?_
  try go_wp2
  have n0_ := Aside0.mk (Kd.R_drew HO608.out)
  have n1_ := Aside0.mk (Kd.R_drew HO611.out)
  have n2_ := Aside0.mk (Kd.R_drew HO614.out)
  have n3_ := Aside0.mk (Kd.R_drew HO617.out)
  have n4_ := Aside0.mk (Kd.R_drew HO620.out)
  have n5_ := Aside0.mk (blk_drew BK601.out)
  have n6_ := Aside0.mk (below_drew1 HB.out)
  clear HO608
  clear HO611
  clear HO614
  clear HO617
  clear HO620
  clear BK601
  clear HB
  have HO608 := n0_
  have HO611 := n1_
  have HO614 := n2_
  have HO617 := n3_
  have HO620 := n4_
  have BK601 := n5_
  have HB := n6_
  clear n0_ n1_ n2_ n3_ n4_ n5_ n6_
  obtain ⟨Ao26, co26, eo26⟩ := Kd.R_slice HO620.out
  (first | subst eo26 | (injection eo26 with f1_ f2_ f3_; have f4_ := f1_.symm; have f5_ := f3_.symm; clear f1_ f2_ f3_; subst f4_; subst f5_))
  refine start_ (n := 12) (S := fun w' => w'.cell? ⟨gb601, 0, none⟩ = some (.int .i64 a0_0) ∧ w'.cell? ⟨gb601, 1, none⟩ = some (.int .i64 a0_1) ∧ w'.cell? ⟨gb601, 2, none⟩ = some (.int .i64 a0_2) ∧ w'.cell? ⟨gb601, 3, none⟩ = some (.int .i64 a0_3) ∧ w'.cell? ⟨gb601, 4, none⟩ = some (.string a0_4) ∧ w'.cell? ⟨gb601, 5, none⟩ = some (.int .i64 a0_5) ∧ w'.cell? ⟨gb601, 6, none⟩ = some (.slice A0_6 l0_6.length c0_6)) (ds := []) #[false, false, false, false, false, false, false, false, false, false, false, false] (by kernel_rfl) rfl rfl ⟨(blk_cell BK601.out 0).trans rfl, (blk_cell BK601.out 1).trans rfl, (blk_cell BK601.out 2).trans rfl, (blk_cell BK601.out 3).trans rfl, (blk_cell BK601.out 4).trans rfl, (blk_cell BK601.out 5).trans rfl, (blk_cell BK601.out 6).trans rfl⟩ (fun hHeld => ?_); refine with_tabW spec_PutMsg.tab4 spec_PutMsg.bits4 (fun HT_ HW_ => ?_)
  generalize w24.drew = w25 at HO608 HO611 HO614 HO617 HO620 BK601 HB hHeld ⊢
  refine pure_ (i := 0) (N := some 22) (v := ?_) (a' := ?_) #[true, false, false, false, false, false, false, false, false, false, false, false] rfl rfl (any_of HT_.out (by kernel_rfl)) (fun _ _ _ h => h) (Or.inl ⟨by rfl, ?_⟩) ?_ ?_
  rotate_left
  ·intro w'
   go_simp
   with_reducible rfl
  rotate_left
  ·simp only [Act.put, List.setIfInBounds_toArray, List.set_cons_zero, List.set_cons_succ, i64_w, i32_w]
   rfl
  refine pure_ (i := 1) (N := some 23) (v := ?_) (a' := ?_) #[true, true, false, false, false, false, false, false, false, false, false, false] rfl rfl (any_of HT_.out (by kernel_rfl)) (fun _ _ _ h => h) (Or.inl ⟨by rfl, ?_⟩) ?_ ?_
  rotate_left
  ·intro w'
   go_simp
   with_reducible rfl
  rotate_left
  ·simp only [Act.put, List.setIfInBounds_toArray, List.set_cons_zero, List.set_cons_succ, i64_w, i32_w]
   rfl
  refine pure_ (i := 2) (N := some 24) (v := ?_) (a' := ?_) #[true, true, true, false, false, false, false, false, false, false, false, false] rfl rfl (any_of HT_.out (by kernel_rfl)) (fun _ _ _ h => h) (Or.inl ⟨by rfl, ?_⟩) ?_ ?_
  rotate_left
  ·intro w'
   go_simp
   with_reducible rfl
  rotate_left
  ·simp only [Act.put, List.setIfInBounds_toArray, List.set_cons_zero, List.set_cons_succ, i64_w, i32_w]
   rfl
  refine pure_ (i := 5) (N := some 27) (v := ?_) (a' := ?_) #[true, true, true, false, false, true, false, false, false, false, false, false] rfl rfl (any_of HT_.out (by kernel_rfl)) (fun _ _ _ h => h) (Or.inl ⟨by rfl, ?_⟩) ?_ ?_
  rotate_left
  ·intro w'
   go_simp
   with_reducible rfl
  rotate_left
  ·simp only [Act.put, List.setIfInBounds_toArray, List.set_cons_zero, List.set_cons_succ, i64_w, i32_w]
   rfl
  refine pure_ (i := 8) (N := some 30) (v := ?_) (a' := ?_) #[true, true, true, false, false, true, false, false, true, false, false, false] rfl rfl (any_of HT_.out (by kernel_rfl)) (fun _ _ _ h => h) (Or.inl ⟨by rfl, ?_⟩) ?_ ?_
  rotate_left
  ·intro w'
   go_simp
   with_reducible rfl
  rotate_left
  ·simp only [Act.put, List.setIfInBounds_toArray, List.set_cons_zero, List.set_cons_succ, i64_w, i32_w]
   rfl
  refine take_ (i := 3) (N := some 25) (v := ?_) (a' := ?_) #[true, true, true, true, false, true, false, false, true, false, false, false] rfl rfl (take_ofW HT_.out HW_.out (by kernel_rfl)) (fun _ _ _ h => h) (Or.inl ⟨by rfl, ?_⟩) hHeld ?_ ?_
  rotate_left
  ·rintro w' ⟨s0, s1, s2, s3, s4, s5, s6⟩
   go_simp
   with_reducible rfl
  rotate_left
  ·simp only [Act.put, List.setIfInBounds_toArray, List.set_cons_zero, List.set_cons_succ, i64_w, i32_w]
   rfl
  refine take_ (i := 6) (N := some 28) (v := ?_) (a' := ?_) #[true, true, true, true, false, true, true, false, true, false, false, false] rfl rfl (take_ofW HT_.out HW_.out (by kernel_rfl)) (fun _ _ _ h => h) (Or.inl ⟨by rfl, ?_⟩) hHeld ?_ ?_
  rotate_left
  ·rintro w' ⟨s0, s1, s2, s3, s4, s5, s6⟩
   go_simp
   with_reducible rfl
  rotate_left
  ·simp only [Act.put, List.setIfInBounds_toArray, List.set_cons_zero, List.set_cons_succ, i64_w, i32_w]
   rfl
  refine take_ (i := 9) (N := some 31) (v := ?_) (a' := ?_) #[true, true, true, true, false, true, true, false, true, true, false, false] rfl rfl (take_ofW HT_.out HW_.out (by kernel_rfl)) (fun _ _ _ h => h) (Or.inl ⟨by rfl, ?_⟩) hHeld ?_ ?_
  rotate_left
  ·rintro w' ⟨s0, s1, s2, s3, s4, s5, s6⟩
   go_simp
   with_reducible rfl
  rotate_left
  ·simp only [Act.put, List.setIfInBounds_toArray, List.set_cons_zero, List.set_cons_succ, i64_w, i32_w]
   rfl
  refine one_ (i := 4) (N := some 26) #[true, true, true, true, true, true, true, false, true, true, false, false] rfl rfl (one_of HT_.out (by kernel_rfl)) (by decide) (fun K hK => ?_)
  refine goes_ Try.func97 (by kernel_rfl) rfl #[.slice Ao26 t618.length co26, .string a0_4] (by rfl) rfl rfl (by (try simp only [List.map_toArray, List.map_cons, List.map_nil]); first | done | rfl | (simp only [List.length_drop, List.length_take]; rfl)) ?_
  with_reducible refine (spec_PutText.calls k _ _ t618 a0_4 t621 _ ?side1 ?side2 A8.out).mono ?_
  (case side1 => repeat (first | exact (Kd.R_reads' HO620.out).2.2 | (with_reducible refine Kd.C_alloc ?_ _) | (with_reducible refine Kd.C_drewN ?_ _) | (with_reducible refine Kd.C_drew ?_)))
  (case side2 => exact (Kd.R_reads' HO620.out).2.1)
  rintro e w27 ⟨v622, rfl, ho0, hb⟩
  refine ⟨_, rfl, ?_⟩
  have n0_ := Aside0.mk (Kd.R_elder' (by (with_reducible repeat (first | apply Kd.R_alloc | apply Kd.R_drewN | apply Kd.R_drew)); exact HO608.out) (Kd.R_base ho0) hb)
  have n1_ := Aside0.mk (Kd.R_elder' (by (with_reducible repeat (first | apply Kd.R_alloc | apply Kd.R_drewN | apply Kd.R_drew)); exact HO611.out) (Kd.R_base ho0) hb)
  have n2_ := Aside0.mk (Kd.R_elder' (by (with_reducible repeat (first | apply Kd.R_alloc | apply Kd.R_drewN | apply Kd.R_drew)); exact HO614.out) (Kd.R_base ho0) hb)
  have n3_ := Aside0.mk (Kd.R_elder' (by (with_reducible repeat (first | apply Kd.R_alloc | apply Kd.R_drewN | apply Kd.R_drew)); exact HO617.out) (Kd.R_base ho0) hb)
  have n4_ := Aside0.mk (Kd.R_elder' (by (with_reducible repeat (first | apply Kd.R_alloc | apply Kd.R_drewN | apply Kd.R_drew)); exact HO620.out) (Kd.R_base ho0) hb)
  have n5_ := Aside0.mk (Kd.R_lower (Kd.R_new' (Kd.R_new' (Kd.R_new' (Kd.R_new' (Kd.R_new' ho0 (Kd.R_lt (by (with_reducible repeat (first | apply Kd.R_alloc | apply Kd.R_drewN | apply Kd.R_drew)); exact HO608.out))) (Kd.R_lt (by (with_reducible repeat (first | apply Kd.R_alloc | apply Kd.R_drewN | apply Kd.R_drew)); exact HO611.out))) (Kd.R_lt (by (with_reducible repeat (first | apply Kd.R_alloc | apply Kd.R_drewN | apply Kd.R_drew)); exact HO614.out))) (Kd.R_lt (by (with_reducible repeat (first | apply Kd.R_alloc | apply Kd.R_drewN | apply Kd.R_drew)); exact HO617.out))) (Kd.R_lt (by (with_reducible repeat (first | apply Kd.R_alloc | apply Kd.R_drewN | apply Kd.R_drew)); exact HO620.out))) (below_size (by repeat (first | (with_reducible first | exact HB.out | apply below_alloc | apply pw_below_drewN | apply below_drew1 | refine below_set ?_ GE601.out) | exact HB.out))))
  have n6_ := Aside0.mk (blk_below (g := gb601) (o := .cells #[.int .i64 a0_0, .int .i64 a0_1, .int .i64 a0_2, .int .i64 a0_3, .string a0_4, .int .i64 a0_5, .slice A0_6 l0_6.length c0_6] 33 (0, 0)) (by (with_reducible repeat (first | refine blk_drewN ?_ _ | refine blk_drew ?_ | refine blk_alloc ?_ _)); exact BK601.out) hb)
  have n7_ := Aside0.mk (below_step (by repeat (first | (with_reducible first | exact HB.out | apply below_alloc | apply pw_below_drewN | apply below_drew1 | refine below_set ?_ GE601.out) | exact HB.out)) hb)
  clear HO608
  clear HO611
  clear HO614
  clear HO617
  clear HO620
  clear BK601
  clear HB
  have HO608 := n0_
  have HO611 := n1_
  have HO614 := n2_
  have HO617 := n3_
  have HO620 := n4_
  have HO623 := n5_
  have BK601 := n6_
  have HB := n7_
  clear n0_ n1_ n2_ n3_ n4_ n5_ n6_ n7_
  (try clear hb)
  (try clear hb2)
  (try clear hk)
  (try clear hi)
  (try clear ho0)
  obtain ⟨Ao28, co28, eo28⟩ := Kd.R_slice HO623.out
  (first | subst eo28 | (injection eo28 with f1_ f2_ f3_; have f4_ := f1_.symm; have f5_ := f3_.symm; clear f1_ f2_ f3_; subst f4_; subst f5_))
  refine hK.out _ _ ⟨(blk_cell BK601.out 0).trans rfl, (blk_cell BK601.out 1).trans rfl, (blk_cell BK601.out 2).trans rfl, (blk_cell BK601.out 3).trans rfl, (blk_cell BK601.out 4).trans rfl, (blk_cell BK601.out 5).trans rfl, (blk_cell BK601.out 6).trans rfl⟩ (fun hHeld => ?_)
  clear hK K
  refine norm_ (a' := ?_) ?_ ?_
  rotate_left
  ·show Act.put _ (some 26) _ = _
   simp only [Act.put, List.setIfInBounds_toArray, List.set_cons_zero, List.set_cons_succ, i64_w, i32_w]
   rfl
  refine one_ (i := 7) (N := some 29) #[true, true, true, true, true, true, true, true, true, true, false, false] rfl rfl (one_of HT_.out (by kernel_rfl)) (by decide) (fun K hK => ?_)
  refine goes_ Try.func95 (by kernel_rfl) rfl #[.slice Ao28 t621.length co28, .int .i64 a0_5] (by rfl) rfl rfl (by (try simp only [List.map_toArray, List.map_cons, List.map_nil]); first | done | rfl | (simp only [List.length_drop, List.length_take]; rfl)) ?_
  with_reducible refine (spec_PutNum.calls k _ _ t621 a0_5 t624 _ ?side1 ?side2 A9.out).mono ?_
  (case side1 => repeat (first | exact (Kd.R_reads' HO623.out).2.2 | (with_reducible refine Kd.C_alloc ?_ _) | (with_reducible refine Kd.C_drewN ?_ _) | (with_reducible refine Kd.C_drew ?_)))
  (case side2 => exact (Kd.R_reads' HO623.out).2.1)
  rintro e w29 ⟨v625, rfl, ho0, hb⟩
  refine ⟨_, rfl, ?_⟩
  have n0_ := Aside0.mk (Kd.R_elder' (by (with_reducible repeat (first | apply Kd.R_alloc | apply Kd.R_drewN | apply Kd.R_drew)); exact HO608.out) (Kd.R_base ho0) hb)
  have n1_ := Aside0.mk (Kd.R_elder' (by (with_reducible repeat (first | apply Kd.R_alloc | apply Kd.R_drewN | apply Kd.R_drew)); exact HO611.out) (Kd.R_base ho0) hb)
  have n2_ := Aside0.mk (Kd.R_elder' (by (with_reducible repeat (first | apply Kd.R_alloc | apply Kd.R_drewN | apply Kd.R_drew)); exact HO614.out) (Kd.R_base ho0) hb)
  have n3_ := Aside0.mk (Kd.R_elder' (by (with_reducible repeat (first | apply Kd.R_alloc | apply Kd.R_drewN | apply Kd.R_drew)); exact HO617.out) (Kd.R_base ho0) hb)
  have n4_ := Aside0.mk (Kd.R_elder' (by (with_reducible repeat (first | apply Kd.R_alloc | apply Kd.R_drewN | apply Kd.R_drew)); exact HO620.out) (Kd.R_base ho0) hb)
  have n5_ := Aside0.mk (Kd.R_elder' (by (with_reducible repeat (first | apply Kd.R_alloc | apply Kd.R_drewN | apply Kd.R_drew)); exact HO623.out) (Kd.R_base ho0) hb)
  have n6_ := Aside0.mk (Kd.R_lower (Kd.R_new' (Kd.R_new' (Kd.R_new' (Kd.R_new' (Kd.R_new' (Kd.R_new' ho0 (Kd.R_lt (by (with_reducible repeat (first | apply Kd.R_alloc | apply Kd.R_drewN | apply Kd.R_drew)); exact HO608.out))) (Kd.R_lt (by (with_reducible repeat (first | apply Kd.R_alloc | apply Kd.R_drewN | apply Kd.R_drew)); exact HO611.out))) (Kd.R_lt (by (with_reducible repeat (first | apply Kd.R_alloc | apply Kd.R_drewN | apply Kd.R_drew)); exact HO614.out))) (Kd.R_lt (by (with_reducible repeat (first | apply Kd.R_alloc | apply Kd.R_drewN | apply Kd.R_drew)); exact HO617.out))) (Kd.R_lt (by (with_reducible repeat (first | apply Kd.R_alloc | apply Kd.R_drewN | apply Kd.R_drew)); exact HO620.out))) (Kd.R_lt (by (with_reducible repeat (first | apply Kd.R_alloc | apply Kd.R_drewN | apply Kd.R_drew)); exact HO623.out))) (below_size (by repeat (first | (with_reducible first | exact HB.out | apply below_alloc | apply pw_below_drewN | apply below_drew1 | refine below_set ?_ GE601.out) | exact HB.out))))
  have n7_ := Aside0.mk (blk_below (g := gb601) (o := .cells #[.int .i64 a0_0, .int .i64 a0_1, .int .i64 a0_2, .int .i64 a0_3, .string a0_4, .int .i64 a0_5, .slice A0_6 l0_6.length c0_6] 33 (0, 0)) (by (with_reducible repeat (first | refine blk_drewN ?_ _ | refine blk_drew ?_ | refine blk_alloc ?_ _)); exact BK601.out) hb)
  have n8_ := Aside0.mk (below_step (by repeat (first | (with_reducible first | exact HB.out | apply below_alloc | apply pw_below_drewN | apply below_drew1 | refine below_set ?_ GE601.out) | exact HB.out)) hb)
  clear HO608
  clear HO611
  clear HO614
  clear HO617
  clear HO620
  clear HO623
  clear BK601
  clear HB
  have HO608 := n0_
  have HO611 := n1_
  have HO614 := n2_
  have HO617 := n3_
  have HO620 := n4_
  have HO623 := n5_
  have HO626 := n6_
  have BK601 := n7_
  have HB := n8_
  clear n0_ n1_ n2_ n3_ n4_ n5_ n6_ n7_ n8_
  (try clear hb)
  (try clear hb2)
  (try clear hk)
  (try clear hi)
  (try clear ho0)
  obtain ⟨Ao30, co30, eo30⟩ := Kd.R_slice HO626.out
  (first | subst eo30 | (injection eo30 with f1_ f2_ f3_; have f4_ := f1_.symm; have f5_ := f3_.symm; clear f1_ f2_ f3_; subst f4_; subst f5_))
  refine hK.out _ _ ⟨(blk_cell BK601.out 0).trans rfl, (blk_cell BK601.out 1).trans rfl, (blk_cell BK601.out 2).trans rfl, (blk_cell BK601.out 3).trans rfl, (blk_cell BK601.out 4).trans rfl, (blk_cell BK601.out 5).trans rfl, (blk_cell BK601.out 6).trans rfl⟩ (fun hHeld => ?_)
  clear hK K
  refine norm_ (a' := ?_) ?_ ?_
  rotate_left
  ·show Act.put _ (some 29) _ = _
   simp only [Act.put, List.setIfInBounds_toArray, List.set_cons_zero, List.set_cons_succ, i64_w, i32_w]
   rfl
  refine one_ (i := 10) (N := some 32) #[true, true, true, true, true, true, true, true, true, true, true, false] rfl rfl (one_of HT_.out (by kernel_rfl)) (by decide) (fun K hK => ?_)
  refine goes_ Try.func96 (by kernel_rfl) rfl #[.slice Ao30 t624.length co30, .slice A0_6 l0_6.length c0_6] (by rfl) rfl rfl (by (try simp only [List.map_toArray, List.map_cons, List.map_nil]); first | done | rfl | (simp only [List.length_drop, List.length_take]; rfl)) ?_
  with_reducible refine (spec_PutTexts.calls k _ _ t624 _ _ l0_6 t627 _ ?side1 ?side2 ?side3 ?side4 A10.out).mono ?_
  (case side1 => repeat (first | exact (Kd.R_reads' HO626.out).2.2 | (with_reducible refine Kd.C_alloc ?_ _) | (with_reducible refine Kd.C_drewN ?_ _) | (with_reducible refine Kd.C_drew ?_)))
  (case side2 => exact (Kd.R_reads' HO626.out).2.1)
  (case side3 => repeat (first | exact (Kd.C_below HR0_6.out HB.out) | (with_reducible refine Kd.C_alloc ?_ _) | (with_reducible refine Kd.C_drewN ?_ _) | (with_reducible refine Kd.C_drew ?_)))
  (case side4 => exact HC0_6.out)
  rintro e w31 ⟨v628, rfl, ho0, hb⟩
  refine ⟨_, rfl, ?_⟩
  have n0_ := Aside0.mk (Kd.R_elder' (by (with_reducible repeat (first | apply Kd.R_alloc | apply Kd.R_drewN | apply Kd.R_drew)); exact HO608.out) (Kd.R_base ho0) hb)
  have n1_ := Aside0.mk (Kd.R_elder' (by (with_reducible repeat (first | apply Kd.R_alloc | apply Kd.R_drewN | apply Kd.R_drew)); exact HO611.out) (Kd.R_base ho0) hb)
  have n2_ := Aside0.mk (Kd.R_elder' (by (with_reducible repeat (first | apply Kd.R_alloc | apply Kd.R_drewN | apply Kd.R_drew)); exact HO614.out) (Kd.R_base ho0) hb)
  have n3_ := Aside0.mk (Kd.R_elder' (by (with_reducible repeat (first | apply Kd.R_alloc | apply Kd.R_drewN | apply Kd.R_drew)); exact HO617.out) (Kd.R_base ho0) hb)
  have n4_ := Aside0.mk (Kd.R_elder' (by (with_reducible repeat (first | apply Kd.R_alloc | apply Kd.R_drewN | apply Kd.R_drew)); exact HO620.out) (Kd.R_base ho0) hb)
  have n5_ := Aside0.mk (Kd.R_elder' (by (with_reducible repeat (first | apply Kd.R_alloc | apply Kd.R_drewN | apply Kd.R_drew)); exact HO623.out) (Kd.R_base ho0) hb)
  have n6_ := Aside0.mk (Kd.R_elder' (by (with_reducible repeat (first | apply Kd.R_alloc | apply Kd.R_drewN | apply Kd.R_drew)); exact HO626.out) (Kd.R_base ho0) hb)
  have n7_ := Aside0.mk (Kd.R_lower (Kd.R_new' (Kd.R_new' (Kd.R_new' (Kd.R_new' (Kd.R_new' (Kd.R_new' (Kd.R_new' ho0 (Kd.R_lt (by (with_reducible repeat (first | apply Kd.R_alloc | apply Kd.R_drewN | apply Kd.R_drew)); exact HO608.out))) (Kd.R_lt (by (with_reducible repeat (first | apply Kd.R_alloc | apply Kd.R_drewN | apply Kd.R_drew)); exact HO611.out))) (Kd.R_lt (by (with_reducible repeat (first | apply Kd.R_alloc | apply Kd.R_drewN | apply Kd.R_drew)); exact HO614.out))) (Kd.R_lt (by (with_reducible repeat (first | apply Kd.R_alloc | apply Kd.R_drewN | apply Kd.R_drew)); exact HO617.out))) (Kd.R_lt (by (with_reducible repeat (first | apply Kd.R_alloc | apply Kd.R_drewN | apply Kd.R_drew)); exact HO620.out))) (Kd.R_lt (by (with_reducible repeat (first | apply Kd.R_alloc | apply Kd.R_drewN | apply Kd.R_drew)); exact HO623.out))) (Kd.R_lt (by (with_reducible repeat (first | apply Kd.R_alloc | apply Kd.R_drewN | apply Kd.R_drew)); exact HO626.out))) (below_size (by repeat (first | (with_reducible first | exact HB.out | apply below_alloc | apply pw_below_drewN | apply below_drew1 | refine below_set ?_ GE601.out) | exact HB.out))))
  have n8_ := Aside0.mk (blk_below (g := gb601) (o := .cells #[.int .i64 a0_0, .int .i64 a0_1, .int .i64 a0_2, .int .i64 a0_3, .string a0_4, .int .i64 a0_5, .slice A0_6 l0_6.length c0_6] 33 (0, 0)) (by (with_reducible repeat (first | refine blk_drewN ?_ _ | refine blk_drew ?_ | refine blk_alloc ?_ _)); exact BK601.out) hb)
  have n9_ := Aside0.mk (below_step (by repeat (first | (with_reducible first | exact HB.out | apply below_alloc | apply pw_below_drewN | apply below_drew1 | refine below_set ?_ GE601.out) | exact HB.out)) hb)
  clear HO608
  clear HO611
  clear HO614
  clear HO617
  clear HO620
  clear HO623
  clear HO626
  clear BK601
  clear HB
  have HO608 := n0_
  have HO611 := n1_
  have HO614 := n2_
  have HO617 := n3_
  have HO620 := n4_
  have HO623 := n5_
  have HO626 := n6_
  have HO629 := n7_
  have BK601 := n8_
  have HB := n9_
  clear n0_ n1_ n2_ n3_ n4_ n5_ n6_ n7_ n8_ n9_
  (try clear hb)
  (try clear hb2)
  (try clear hk)
  (try clear hi)
  (try clear ho0)
  refine hK.out _ _ ⟨(blk_cell BK601.out 0).trans rfl, (blk_cell BK601.out 1).trans rfl, (blk_cell BK601.out 2).trans rfl, (blk_cell BK601.out 3).trans rfl, (blk_cell BK601.out 4).trans rfl, (blk_cell BK601.out 5).trans rfl, (blk_cell BK601.out 6).trans rfl⟩ (fun hHeld => ?_)
  clear hK K
  refine norm_ (a' := ?_) ?_ ?_
  rotate_left
  ·show Act.put _ (some 32) _ = _
   simp only [Act.put, List.setIfInBounds_toArray, List.set_cons_zero, List.set_cons_succ, i64_w, i32_w]
   rfl
  refine pure_ (i := 11) (N := some 2) (v := ?_) (a' := ?_) #[true, true, true, true, true, true, true, true, true, true, true, true] rfl rfl (any_of HT_.out (by kernel_rfl)) (fun _ _ _ h => h) (Or.inl ⟨by rfl, ?_⟩) ?_ ?_
  rotate_left
  ·intro w'
   go_simp
   with_reducible rfl
  rotate_left
  ·simp only [Act.put, List.setIfInBounds_toArray, List.set_cons_zero, List.set_cons_succ, i64_w, i32_w]
   rfl
  refine done_ (done_of HT_.out (by kernel_rfl)) ?_
  try go_wp2
  go_ret
  exact ⟨_, by first | rfl | (simp [errW_none, errW_some] <;> rfl) | (simp [*, errW_none, errW_some] <;> rfl), by (with_reducible repeat (first | apply Kd.R_alloc | apply Kd.R_drewN | apply Kd.R_drew)); exact Kd.R_mono HO629.out (fun _ hk => trivial), by repeat (first | (with_reducible first | exact HB.out | apply below_alloc | apply pw_below_drewN | apply below_drew1 | refine below_set ?_ GE601.out) | exact HB.out)⟩
 ·replace c3 := Bool.eq_false_iff.mpr c3
  subst c3
  have H1 : (some (([] : List Int))) = some r := by rw [if_neg (show ¬ (false = true) by decide)] at H; exact H
  clear H
  have H := H1
  clear H1
  obtain ⟨y603, hy603⟩ : ∃ y_ : List Int, y_ = (([] : List Int)) := ⟨_, rfl⟩
  replace H : (some y603) = some r := by first | (rw [hy603]; with_reducible exact H) | (have H2_ := (Option.bind_some _ _).symm.trans H; rw [hy603]; with_reducible exact H2_) | (have H2_ := (Option.bind_some _ _).symm.trans H; with_reducible exact H2_) | with_reducible exact H | (rw [hy603]; exact H) | exact H
  have Ny603 := Aside0.mk hy603
  clear hy603
  obtain rfl := Option.some.inj H
  go_enter Try.func18, Try.ntmps18
  go_wp2_with (first | ((with_reducible refine gate_dst (N := 1) rfl ?_); refine box_event ?hg (N := 1) ?hd (cs := #[.int .i64 a0_0, .int .i64 a0_1, .int .i64 a0_2, .int .i64 a0_3, .string a0_4, .int .i64 a0_5, .slice A0_6 l0_6.length c0_6]) (t := 33) ?hr ?_; (case hd => rfl); (case hg => rfl); (case hr => first | (go_simp; done) | (go_simp; rfl)); intro gb601 hg w32 hbox hb; have n0_ := Aside0.mk (below_step (by repeat (first | (with_reducible first | exact HB.out | apply below_alloc | apply pw_below_drewN | apply below_drew1) | exact HB.out)) hb); have n1_ := Aside0.mk (hbox); have n2_ := Aside0.mk ((by rw [hg]; exact (below_size (by repeat (first | (with_reducible first | exact HB.out | apply below_alloc | apply pw_below_drewN | apply below_drew1) | exact HB.out))) : w.heap.size ≤ gb601)); have n3_ := Aside0.mk ((by rw [hg]; exact (below_size (by repeat (first | (with_reducible first | exact HB.out | apply below_alloc | apply pw_below_drewN | apply below_drew1) | exact HB.out))) : w.heap.size ≤ gb601)); clear HB; have HB := n0_; have BK601 := n1_; have GW601 := n2_; have GE601 := n3_; clear n0_ n1_ n2_ n3_; clear hb hbox hg; have hcz33_0 : w32.cell? ⟨gb601, 0, none⟩ = some (.int .i64 a0_0) := (blk_cell BK601.out 0).trans rfl; have hcz33_1 : w32.cell? ⟨gb601, 1, none⟩ = some (.int .i64 a0_1) := (blk_cell BK601.out 1).trans rfl; have hcz33_2 : w32.cell? ⟨gb601, 2, none⟩ = some (.int .i64 a0_2) := (blk_cell BK601.out 2).trans rfl; have hcz33_3 : w32.cell? ⟨gb601, 3, none⟩ = some (.int .i64 a0_3) := (blk_cell BK601.out 3).trans rfl; have hcz33_4 : w32.cell? ⟨gb601, 4, none⟩ = some (.string a0_4) := (blk_cell BK601.out 4).trans rfl; have hcz33_5 : w32.cell? ⟨gb601, 5, none⟩ = some (.int .i64 a0_5) := (blk_cell BK601.out 5).trans rfl; have hcz33_6 : w32.cell? ⟨gb601, 6, none⟩ = some (.slice A0_6 l0_6.length c0_6) := (blk_cell BK601.out 6).trans rfl; have hfz33_0 := blk_frozen BK601.out 0; have hfz33_1 := blk_frozen BK601.out 1; have hfz33_2 := blk_frozen BK601.out 2; have hfz33_3 := blk_frozen BK601.out 3; have hfz33_4 := blk_frozen BK601.out 4; have hfz33_5 := blk_frozen BK601.out 5; have hfz33_6 := blk_frozen BK601.out 6) | ((with_reducible refine gate_callee (f := 73) rfl ?_); refine goesL_ (some 5) rfl rfl Try.func73 (by kernel_rfl) rfl #[.agg #[.int .i64 a0_0, .int .i64 a0_1, .int .i64 a0_2, .int .i64 a0_3, .string a0_4, .int .i64 a0_5, .slice A0_6 l0_6.length c0_6]] rfl (by (try simp only [List.map_toArray, List.map_cons, List.map_nil]); first | done | rfl | (simp only [List.length_drop, List.length_take]; rfl)) ?_; (with_reducible refine (spec_MsgOk.calls k a0_0 a0_1 a0_2 a0_3 a0_4 a0_5 _ _ l0_6 false _ ?side1 ?side2 A2.out).mono ?_); (case side1 => repeat (first | exact (Kd.C_below HR0_6.out HB.out) | (with_reducible refine Kd.C_alloc ?_ _) | (with_reducible refine Kd.C_drewN ?_ _) | (with_reducible refine Kd.C_drew ?_))); (case side2 => exact HC0_6.out); rintro e w34 ⟨rfl, hb⟩; refine ⟨_, rfl, ?_⟩; have n0_ := Aside0.mk (blk_below (g := gb601) (o := .cells #[.int .i64 a0_0, .int .i64 a0_1, .int .i64 a0_2, .int .i64 a0_3, .string a0_4, .int .i64 a0_5, .slice A0_6 l0_6.length c0_6] 33 (0, 0)) (by (with_reducible repeat (first | refine blk_drewN ?_ _ | refine blk_drew ?_ | refine blk_alloc ?_ _)); exact BK601.out) hb); have n1_ := Aside0.mk (below_step (by repeat (first | (with_reducible first | exact HB.out | apply below_alloc | apply pw_below_drewN | apply below_drew1 | refine below_set ?_ GE601.out) | exact HB.out)) hb); clear BK601; clear HB; have BK601 := n0_; have HB := n1_; clear n0_ n1_; (try clear hb); (try clear hb2); (try clear hk); (try clear hi)) | ((with_reducible refine gate_dst (N := 7) rfl ?_); refine Kd.R_lit (Kd.int .u8) _ 5 ?hg (N := 7) ?hd (xs := ([] : List Int)) (inner := []) (ok := fun _ => True) (okp := fun _ => True) ?hr ?hp (fun _ hk => hk) trivial (Below.refl _ _) (Nat.le_refl _) (by simp) ?_; (case hd => rfl); (case hg => rfl); (case hr => first | (go_simp; done) | (go_simp; rfl)); (case hp => exact (Reps.none _ _)); intro v604 w35 ho36 hb hg_ hnew_; clear hg_ hnew_; (first | rw [← Ny603.out] at ho36 | (simp only [Int.reduceToNat] at ho36; rw [← Ny603.out] at ho36)); have n0_ := Aside0.mk (Kd.R_lower ho36 (below_size (by repeat (first | (with_reducible first | exact HB.out | apply below_alloc | apply pw_below_drewN | apply below_drew1 | refine below_set ?_ GE601.out) | exact HB.out)))); have n1_ := Aside0.mk (blk_below (g := gb601) (o := .cells #[.int .i64 a0_0, .int .i64 a0_1, .int .i64 a0_2, .int .i64 a0_3, .string a0_4, .int .i64 a0_5, .slice A0_6 l0_6.length c0_6] 33 (0, 0)) (by (with_reducible repeat (first | refine blk_drewN ?_ _ | refine blk_drew ?_ | refine blk_alloc ?_ _)); exact BK601.out) hb); have n2_ := Aside0.mk (below_step (by repeat (first | (with_reducible first | exact HB.out | apply below_alloc | apply pw_below_drewN | apply below_drew1 | refine below_set ?_ GE601.out) | exact HB.out)) hb); clear BK601; clear HB; have HO605 := n0_; have BK601 := n1_; have HB := n2_; clear n0_ n1_ n2_; clear hb ho36))
  go_ret
  exact ⟨_, by first | rfl | (simp [errW_none, errW_some] <;> rfl) | (simp [*, errW_none, errW_some] <;> rfl), by (with_reducible repeat (first | apply Kd.R_alloc | apply Kd.R_drewN | apply Kd.R_drew)); exact HO605.out, by repeat (first | (with_reducible first | exact HB.out | apply below_alloc | apply pw_below_drewN | apply below_drew1 | refine below_set ?_ GE601.out) | exact HB.out)⟩

end Go.Proofs.Ytcogimnpffnanaa.Q
end

section
/- A message read: the program's GetMsg and the reference's are one. Plain. -/
namespace Go.Proofs.Ytcogimnpffnanaa.Q
open Go.RowKit Go.Proofs.Ytcogimnpffnanaa.B Go.Proofs.YtcogimnpffnanaaW.PrintWords Go.Proofs.YtcogimnpffnanaaW.PrintMore
set_option linter.unusedVariables false
set_option linter.unusedSimpArgs false

def msgKind (k d n : Int) (l : List ByteArray) : Bool := if k = 1 then (if n = 0 then ((l.length : Int) == 0) else false) else (if k = 2 then (if n < d then ((l.length : Int) == 0) else false) else (if k = 3 then (if n < d then ((l.length : Int) == (wrap64 (d - n))) else false) else false))
def msgOk (k f t d : Int) (s : ByteArray) (n : Int) (l : List ByteArray) : Bool := if (0 ≤ f ∧ f ≤ 20) ∧ (0 ≤ t ∧ t ≤ 20) ∧ ¬ f = t ∧ headOk d s = true ∧ (0 ≤ n ∧ n ≤ 200) then msgKind k d n l else false
theorem spec_j_ev (x : Bool) (k f t d : Int) (s : ByteArray) (n : Int) (l : List ByteArray) : Ev (fun q => spec_MsgOk.j0 q x k f t d s n l) (if x = true then false else msgKind k d n l) := by
 refine Ev.step (f := fun _ => some (if x = true then false else msgKind k d n l)) (fun q => ?_) (Ev.now _)
 simp only [spec_MsgOk.j0]
 unfold msgKind
 repeat' split
 all_goals first | rfl | simp_all
theorem impl_j_ev (x : Bool) (k f t d : Int) (s : ByteArray) (n : Int) (l : List ByteArray) : Ev (fun q => impl_MsgOk.j0 q x k f t d s n l) (if x = true then false else msgKind k d n l) := by
 refine Ev.step (f := fun _ => some (if x = true then false else msgKind k d n l)) (fun q => ?_) (Ev.now _)
 simp only [impl_MsgOk.j0]
 unfold msgKind
 repeat' split
 all_goals first | rfl | simp_all
theorem isId_eq (x : Int) : impl_isId.f x = some (decide (0 ≤ x ∧ x ≤ 20)) := by
 unfold impl_isId.f
 rw [impl_in_eq]
 rfl
theorem spec_MsgOk_ev (k f t d : Int) (s : ByteArray) (n : Int) (l : List ByteArray) : Ev (fun q => spec_MsgOk.f q k f t d s n l) (msgOk k f t d s n l) := by
 unfold spec_MsgOk.f msgOk
 have J := fun x => spec_j_ev x k f t d s n l
 have Jt := J true
 rw [if_pos rfl] at Jt
 by_cases h1 : 0 ≤ f ∧ f ≤ 20
 ·refine Ev.bind (Ev.const (spec_in_eq _ _ _)) (Ev.pos (decide_eq_true h1) ?_)
  by_cases h2 : 0 ≤ t ∧ t ≤ 20
  ·refine Ev.bind (Ev.const (spec_in_eq _ _ _)) (Ev.pos (decide_eq_true h2) ?_)
   by_cases h3 : f = t
   ·rw [if_neg (fun q => q.2.2.1 h3)]
    exact Ev.pos h3 Jt
   ·refine Ev.neg h3 (Ev.bind (Ev.const (spec_HeadOk_eq _ _)) ?_)
    by_cases h4 : headOk d s = true
    ·refine Ev.pos h4 (Ev.bind (Ev.const (spec_in_eq _ _ _)) ?_)
     by_cases h5 : 0 ≤ n ∧ n ≤ 200
     ·rw [if_pos ⟨h1, h2, h3, h4, h5⟩, decide_eq_true h5]
      have j := J false
      rw [if_neg (by simp)] at j
      exact j
     ·rw [if_neg (fun q => h5 q.2.2.2.2), decide_eq_false h5]
      exact Jt
    ·rw [if_neg (fun q => h4 q.2.2.2.1)]
     exact Ev.neg h4 Jt
  ·rw [if_neg (fun q => h2 q.2.1)]
   exact Ev.bind (Ev.const (spec_in_eq _ _ _)) (Ev.neg (by rw [decide_eq_false h2]; simp) Jt)
 ·rw [if_neg (fun q => h1 q.1)]
  exact Ev.bind (Ev.const (spec_in_eq _ _ _)) (Ev.neg (by rw [decide_eq_false h1]; simp) Jt)
theorem impl_MsgOk_ev (k f t d : Int) (s : ByteArray) (n : Int) (l : List ByteArray) : Ev (fun q => impl_MsgOk.f q k f t d s n l) (msgOk k f t d s n l) := by
 unfold impl_MsgOk.f msgOk
 have J := fun x => impl_j_ev x k f t d s n l
 have Jt := J true
 rw [if_pos rfl] at Jt
 by_cases h1 : 0 ≤ f ∧ f ≤ 20
 ·refine Ev.bind (Ev.const (isId_eq _)) (Ev.pos (decide_eq_true h1) ?_)
  by_cases h2 : 0 ≤ t ∧ t ≤ 20
  ·refine Ev.bind (Ev.const (isId_eq _)) (Ev.pos (decide_eq_true h2) ?_)
   by_cases h3 : f = t
   ·rw [if_neg (fun q => q.2.2.1 h3)]
    exact Ev.pos h3 Jt
   ·refine Ev.neg h3 (Ev.bind (Ev.const (impl_HeadOk_eq _ _)) ?_)
    by_cases h4 : headOk d s = true
    ·refine Ev.pos h4 (Ev.bind (Ev.const (impl_in_eq _ _ _)) ?_)
     by_cases h5 : 0 ≤ n ∧ n ≤ 200
     ·rw [if_pos ⟨h1, h2, h3, h4, h5⟩, decide_eq_true h5]
      have j := J false
      rw [if_neg (by simp)] at j
      exact j
     ·rw [if_neg (fun q => h5 q.2.2.2.2), decide_eq_false h5]
      exact Jt
    ·rw [if_neg (fun q => h4 q.2.2.2.1)]
     exact Ev.neg h4 Jt
  ·rw [if_neg (fun q => h2 q.2.1)]
   exact Ev.bind (Ev.const (isId_eq _)) (Ev.neg (by rw [decide_eq_false h2]; simp) Jt)
 ·rw [if_neg (fun q => h1 q.1)]
  exact Ev.bind (Ev.const (isId_eq _)) (Ev.neg (by rw [decide_eq_false h1]; simp) Jt)
theorem msgOk_parts {k f t d n : Int} {s : ByteArray} {l : List ByteArray} (h : msgOk k f t d s n l = true) : (0 ≤ k ∧ k ≤ 3) ∧ (0 ≤ f ∧ f ≤ 20) ∧ (0 ≤ t ∧ t ≤ 20) ∧ (0 ≤ d ∧ d ≤ 200) ∧ s.size = 32 ∧ (0 ≤ n ∧ n ≤ 200) ∧ l.length ≤ 200 := by
 unfold msgOk at h
 by_cases hc : (0 ≤ f ∧ f ≤ 20) ∧ (0 ≤ t ∧ t ≤ 20) ∧ ¬ f = t ∧ headOk d s = true ∧ (0 ≤ n ∧ n ≤ 200)
 ·rw [if_pos hc] at h
  obtain ⟨h1, h2, h3, h4, h5⟩ := hc
  obtain ⟨d1, d2, d3⟩ := headOk_parts h4
  unfold msgKind at h
  by_cases k1 : k = 1
  ·rw [if_pos k1] at h
   by_cases n0 : n = 0
   ·rw [if_pos n0] at h
    have := beq_iff_eq.1 h
    exact ⟨by omega, h1, h2, ⟨d1, d2⟩, d3, h5, by omega⟩
   ·rw [if_neg n0] at h
    cases h
  ·rw [if_neg k1] at h
   by_cases k2 : k = 2
   ·rw [if_pos k2] at h
    by_cases nd : n < d
    ·rw [if_pos nd] at h
     have := beq_iff_eq.1 h
     exact ⟨by omega, h1, h2, ⟨d1, d2⟩, d3, h5, by omega⟩
    ·rw [if_neg nd] at h
     cases h
   ·rw [if_neg k2] at h
    by_cases k3 : k = 3
    ·rw [if_pos k3] at h
     by_cases nd : n < d
     ·rw [if_pos nd] at h
      have := beq_iff_eq.1 h
      rw [w64 (by omega) (by omega)] at this
      exact ⟨by omega, h1, h2, ⟨d1, d2⟩, d3, h5, by omega⟩
     ·rw [if_neg nd] at h
      cases h
    ·rw [if_neg k3] at h
     cases h
 ·rw [if_neg hc] at h
  cases h
/-- The bytes of a message. -/
def msgB (a b c d : Nat) (s : ByteArray) (n : Nat) (t : List ByteArray) : List Int := num a ++ (num b ++ (num c ++ (num d ++ (textB s ++ (num n ++ textsB t)))))
theorem implPut_val (a b c d : Nat) (s : ByteArray) (n : Nat) (t : List ByteArray) (hk : msgOk a b c d s n t = true) (htt : total t ≤ 1000000000) (hx : ∀ x ∈ t, x.size ≤ 1000000000) : Ev (fun q => impl_PutMsg.f q a b c d s n t) (msgB a b c d s n t) := by
 obtain ⟨p1, p2, p3, p4, p5, p6, p7⟩ := msgOk_parts hk
 have ht0 := total_nonneg t
 have h1 := num_five (show a ≤ 1000000000 by omega)
 have h2 := num_five (show b ≤ 1000000000 by omega)
 have h3 := num_five (show c ≤ 1000000000 by omega)
 have h4 := num_five (show d ≤ 1000000000 by omega)
 have h5 := num_five (show n ≤ 1000000000 by omega)
 have h6 := num_five (show s.size ≤ 1000000000 by omega)
 have hs := textB_length s
 have e1 := (putNum_val [] a (by omega) (by simp)).2
 have e2 := (putNum_val ([] ++ num a) b (by omega) (by simp; omega)).2
 have e3 := (putNum_val ([] ++ num a ++ num b) c (by omega) (by simp; omega)).2
 have e4 := (putNum_val ([] ++ num a ++ num b ++ num c) d (by omega) (by simp; omega)).2
 have e5 := (putText_val ([] ++ num a ++ num b ++ num c ++ num d) s (by omega) (by simp; omega)).2
 have e6 := (putNum_val ([] ++ num a ++ num b ++ num c ++ num d ++ textB s) n (by omega) (by simp; omega)).2
 have e7 := (putTexts_val ([] ++ num a ++ num b ++ num c ++ num d ++ textB s ++ num n) t (by simp; omega) (by omega) hx).2
 have eb : [] ++ num a ++ num b ++ num c ++ num d ++ textB s ++ num n ++ textsB t = msgB a b c d s n t := by
  unfold msgB
  simp
 rw [eb] at e7
 unfold impl_PutMsg.f
 exact Ev.bind (impl_MsgOk_ev _ _ _ _ _ _ _) (Ev.pos hk (Ev.bind e1 (Ev.bind e2 (Ev.bind e3 (Ev.bind e4 (Ev.bind e5 (Ev.bind e6 e7)))))))
theorem specPut_val (a b c d : Nat) (s : ByteArray) (n : Nat) (t : List ByteArray) (hk : msgOk a b c d s n t = true) (htt : total t ≤ 1000000000) (hx : ∀ x ∈ t, x.size ≤ 1000000000) : Ev (fun q => spec_PutMsg.f q a b c d s n t) (msgB a b c d s n t) := by
 obtain ⟨p1, p2, p3, p4, p5, p6, p7⟩ := msgOk_parts hk
 have ht0 := total_nonneg t
 have h1 := num_five (show a ≤ 1000000000 by omega)
 have h2 := num_five (show b ≤ 1000000000 by omega)
 have h3 := num_five (show c ≤ 1000000000 by omega)
 have h4 := num_five (show d ≤ 1000000000 by omega)
 have h5 := num_five (show n ≤ 1000000000 by omega)
 have h6 := num_five (show s.size ≤ 1000000000 by omega)
 have hs := textB_length s
 have e1 := (putNum_val [] a (by omega) (by simp)).1
 have e2 := (putNum_val ([] ++ num a) b (by omega) (by simp; omega)).1
 have e3 := (putNum_val ([] ++ num a ++ num b) c (by omega) (by simp; omega)).1
 have e4 := (putNum_val ([] ++ num a ++ num b ++ num c) d (by omega) (by simp; omega)).1
 have e5 := (putText_val ([] ++ num a ++ num b ++ num c ++ num d) s (by omega) (by simp; omega)).1
 have e6 := (putNum_val ([] ++ num a ++ num b ++ num c ++ num d ++ textB s) n (by omega) (by simp; omega)).1
 have e7 := (putTexts_val ([] ++ num a ++ num b ++ num c ++ num d ++ textB s ++ num n) t (by simp; omega) (by omega) hx).1
 have eb : [] ++ num a ++ num b ++ num c ++ num d ++ textB s ++ num n ++ textsB t = msgB a b c d s n t := by
  unfold msgB
  simp
 rw [eb] at e7
 unfold spec_PutMsg.f
 exact Ev.bind (spec_MsgOk_ev _ _ _ _ _ _ _) (Ev.pos hk (Ev.bind e1 (Ev.bind e2 (Ev.bind e3 (Ev.bind e4 (Ev.bind e5 (Ev.bind e6 (Ev.bind e7 (Ev.now _)))))))))
end Go.Proofs.Ytcogimnpffnanaa.Q
end

section
-- Written by a program of this session (wip/tools/pp.sh) over the print of the kit.
namespace Go.Proofs.Ytcogimnpffnanaa.Q
open Go.RowKit Go.Proofs.YtcogimnpffnanaaW.PrintWords Go.Proofs.YtcogimnpffnanaaW.PrintLast Go.Proofs.YtcogimnpffnanaaW.PrintMore
attribute [local go_sem] max2_int min2_int max_two min_two max_three min_three max_four min_four   -- for this text's walks alone
set_option linter.unusedVariables false
set_option linter.unusedSimpArgs false

/-! ### laws_szMsg: function 17 -/
def laws_szMsg.f (k : Nat) (a0_0 : Int) (a0_1 : Int) (a0_2 : Int) (a0_3 : Int) (a0_4 : ByteArray) (a0_5 : Int) (l0_6 : List ByteArray) (a1 : Int) : Option (Int) := (laws_szHead.f a0_3 a0_4 a1).bind fun t602 => (if t602 < 0 then (some (-1)) else ((laws_szStringS.f k l0_6 t602).bind fun t603 => (if t603 < 0 then (some (-1)) else (some t603))))
theorem laws_szMsg.mono : ∀ a0 a1 a2 a3 a4 a5 a6 a7 k, LeO (laws_szMsg.f k a0 a1 a2 a3 a4 a5 a6 a7) (laws_szMsg.f (k + 1) a0 a1 a2 a3 a4 a5 a6 a7) := by
 intro a0 a1 a2 a3 a4 a5 a6 a7 k
 unfold laws_szMsg.f
 repeat' first
   | (with_reducible exact laws_szStringS.mono _ _ _)
   | (with_reducible exact LeO.refl _)
   | (with_reducible exact LeO.none _)
   | (with_reducible refine LeO.ite ?_ ?_)
   | (with_reducible refine LeO.bind ?_ (fun _ => ?_))
   | exact laws_szStringS.mono _ _ _
   | exact LeO.none _
   | refine LeO.ite ?_ ?_
   | refine LeO.bind ?_ (fun _ => ?_)
set_option maxHeartbeats 8000000 in
set_option maxRecDepth 100000 in
theorem laws_szMsg.calls (k : Nat) (a0_0 : Int) (a0_1 : Int) (a0_2 : Int) (a0_3 : Int) (a0_4 : ByteArray) (a0_5 : Int) (A0_6 : Option Addr) (c0_6 : Nat) (l0_6 : List ByteArray) (a1 : Int) (r : Int) (w : World) (hr0_6 : Kd.C Kd.string w A0_6 l0_6.length l0_6) (hc0_6 : l0_6.length ≤ c0_6) (h : laws_szMsg.f k a0_0 a0_1 a0_2 a0_3 a0_4 a0_5 l0_6 a1 = some r) :
  Calls Try.prog 17 #[.agg #[.int .i64 a0_0, .int .i64 a0_1, .int .i64 a0_2, .int .i64 a0_3, .string a0_4, .int .i64 a0_5, .slice A0_6 l0_6.length c0_6], .int .i64 a1] w fun e w' => e = .returned (.int .i64 r) ∧ Below w.heap.size w w' := by
 have hu27 := Try.underlying27
 have hu24 := Try.underlying24
 have HR0_6 := Aside0.mk hr0_6
 have HC0_6 := Aside0.mk hc0_6
 clear hr0_6 hc0_6
 have HB := Aside0.mk (Below.refl w.heap.size w)
 have H : ((laws_szHead.f a0_3 a0_4 a1).bind fun t602 => (if t602 < 0 then (some (-1)) else ((laws_szStringS.f k l0_6 t602).bind fun t603 => (if t603 < 0 then (some (-1)) else (some t603))))) = some r := h
 clear h
 replace H := Option.bind_eq_some_iff.mp H
 obtain ⟨t602, A30, H⟩ := H
 replace H : (if t602 < 0 then (some (-1)) else ((laws_szStringS.f k l0_6 t602).bind fun t603 => (if t603 < 0 then (some (-1)) else (some t603)))) = some r := H
 have A3 := Aside0.mk A30
 clear A30
 by_cases c4 : t602 < 0
 ·rw [if_pos c4] at H
  have c4b0 : decide (t602 < 0) = true := decide_eq_true c4
  clear c4
  obtain rfl := Option.some.inj H
  go_enter Try.func17, Try.ntmps17
  go_wp2_with (first | ((with_reducible refine gate_dst (N := 2) rfl ?_); refine box_event ?hg (N := 2) ?hd (cs := #[.int .i64 a0_0, .int .i64 a0_1, .int .i64 a0_2, .int .i64 a0_3, .string a0_4, .int .i64 a0_5, .slice A0_6 l0_6.length c0_6]) (t := 27) ?hr ?_; (case hd => rfl); (case hg => rfl); (case hr => first | (go_simp; done) | (go_simp; rfl)); intro gb601 hg w5 hbox hb; have n0_ := Aside0.mk (below_step (by repeat (first | (with_reducible first | exact HB.out | apply below_alloc | apply pw_below_drewN | apply below_drew1) | exact HB.out)) hb); have n1_ := Aside0.mk (hbox); have n2_ := Aside0.mk ((by rw [hg]; exact (below_size (by repeat (first | (with_reducible first | exact HB.out | apply below_alloc | apply pw_below_drewN | apply below_drew1) | exact HB.out))) : w.heap.size ≤ gb601)); have n3_ := Aside0.mk ((by rw [hg]; exact (below_size (by repeat (first | (with_reducible first | exact HB.out | apply below_alloc | apply pw_below_drewN | apply below_drew1) | exact HB.out))) : w.heap.size ≤ gb601)); clear HB; have HB := n0_; have BK601 := n1_; have GW601 := n2_; have GE601 := n3_; clear n0_ n1_ n2_ n3_; clear hb hbox hg; have hcz6_0 : w5.cell? ⟨gb601, 0, none⟩ = some (.int .i64 a0_0) := (blk_cell BK601.out 0).trans rfl; have hcz6_1 : w5.cell? ⟨gb601, 1, none⟩ = some (.int .i64 a0_1) := (blk_cell BK601.out 1).trans rfl; have hcz6_2 : w5.cell? ⟨gb601, 2, none⟩ = some (.int .i64 a0_2) := (blk_cell BK601.out 2).trans rfl; have hcz6_3 : w5.cell? ⟨gb601, 3, none⟩ = some (.int .i64 a0_3) := (blk_cell BK601.out 3).trans rfl; have hcz6_4 : w5.cell? ⟨gb601, 4, none⟩ = some (.string a0_4) := (blk_cell BK601.out 4).trans rfl; have hcz6_5 : w5.cell? ⟨gb601, 5, none⟩ = some (.int .i64 a0_5) := (blk_cell BK601.out 5).trans rfl; have hcz6_6 : w5.cell? ⟨gb601, 6, none⟩ = some (.slice A0_6 l0_6.length c0_6) := (blk_cell BK601.out 6).trans rfl; have hfz6_0 := blk_frozen BK601.out 0; have hfz6_1 := blk_frozen BK601.out 1; have hfz6_2 := blk_frozen BK601.out 2; have hfz6_3 := blk_frozen BK601.out 3; have hfz6_4 := blk_frozen BK601.out 4; have hfz6_5 := blk_frozen BK601.out 5; have hfz6_6 := blk_frozen BK601.out 6) | ((with_reducible refine gate_callee (f := 77) rfl ?_); refine goesL_ (some 8) rfl rfl Try.func77 (by kernel_rfl) rfl #[.agg #[.int .i64 a0_3, .string a0_4], .int .i64 a1] rfl (by (try simp only [List.map_toArray, List.map_cons, List.map_nil]); first | done | rfl | (simp only [List.length_drop, List.length_take]; rfl)) ?_; (with_reducible refine (laws_szHead.calls a0_3 a0_4 a1 t602 _ A3.out).mono ?_); rintro e w7 ⟨rfl, hb⟩; refine ⟨_, rfl, ?_⟩; have n0_ := Aside0.mk (blk_below (g := gb601) (o := .cells #[.int .i64 a0_0, .int .i64 a0_1, .int .i64 a0_2, .int .i64 a0_3, .string a0_4, .int .i64 a0_5, .slice A0_6 l0_6.length c0_6] 27 (0, 0)) (by (with_reducible repeat (first | refine blk_drewN ?_ _ | refine blk_drew ?_ | refine blk_alloc ?_ _)); exact BK601.out) hb); have n1_ := Aside0.mk (below_step (by repeat (first | (with_reducible first | exact HB.out | apply below_alloc | apply pw_below_drewN | apply below_drew1 | refine below_set ?_ GE601.out) | exact HB.out)) hb); clear BK601; clear HB; have BK601 := n0_; have HB := n1_; clear n0_ n1_; (try clear hb); (try clear hb2); (try clear hk); (try clear hi)))
  go_ret
  exact ⟨by first | rfl | (simp [errW_none, errW_some] <;> rfl) | (simp [*, errW_none, errW_some] <;> rfl), by repeat (first | (with_reducible first | exact HB.out | apply below_alloc | apply pw_below_drewN | apply below_drew1 | refine below_set ?_ GE601.out) | exact HB.out)⟩
 ·rw [if_neg c4] at H
  have c4b0 : decide (t602 < 0) = false := decide_eq_false c4
  clear c4
  replace H := Option.bind_eq_some_iff.mp H
  obtain ⟨t603, A80, H⟩ := H
  replace H : (if t603 < 0 then (some (-1)) else (some t603)) = some r := H
  have A8 := Aside0.mk A80
  clear A80
  by_cases c9 : t603 < 0
  ·rw [if_pos c9] at H
   have c9b0 : decide (t603 < 0) = true := decide_eq_true c9
   clear c9
   obtain rfl := Option.some.inj H
   go_enter Try.func17, Try.ntmps17
   go_wp2_with (first | ((with_reducible refine gate_dst (N := 2) rfl ?_); refine box_event ?hg (N := 2) ?hd (cs := #[.int .i64 a0_0, .int .i64 a0_1, .int .i64 a0_2, .int .i64 a0_3, .string a0_4, .int .i64 a0_5, .slice A0_6 l0_6.length c0_6]) (t := 27) ?hr ?_; (case hd => rfl); (case hg => rfl); (case hr => first | (go_simp; done) | (go_simp; rfl)); intro gb601 hg w10 hbox hb; have n0_ := Aside0.mk (below_step (by repeat (first | (with_reducible first | exact HB.out | apply below_alloc | apply pw_below_drewN | apply below_drew1) | exact HB.out)) hb); have n1_ := Aside0.mk (hbox); have n2_ := Aside0.mk ((by rw [hg]; exact (below_size (by repeat (first | (with_reducible first | exact HB.out | apply below_alloc | apply pw_below_drewN | apply below_drew1) | exact HB.out))) : w.heap.size ≤ gb601)); have n3_ := Aside0.mk ((by rw [hg]; exact (below_size (by repeat (first | (with_reducible first | exact HB.out | apply below_alloc | apply pw_below_drewN | apply below_drew1) | exact HB.out))) : w.heap.size ≤ gb601)); clear HB; have HB := n0_; have BK601 := n1_; have GW601 := n2_; have GE601 := n3_; clear n0_ n1_ n2_ n3_; clear hb hbox hg; have hcz11_0 : w10.cell? ⟨gb601, 0, none⟩ = some (.int .i64 a0_0) := (blk_cell BK601.out 0).trans rfl; have hcz11_1 : w10.cell? ⟨gb601, 1, none⟩ = some (.int .i64 a0_1) := (blk_cell BK601.out 1).trans rfl; have hcz11_2 : w10.cell? ⟨gb601, 2, none⟩ = some (.int .i64 a0_2) := (blk_cell BK601.out 2).trans rfl; have hcz11_3 : w10.cell? ⟨gb601, 3, none⟩ = some (.int .i64 a0_3) := (blk_cell BK601.out 3).trans rfl; have hcz11_4 : w10.cell? ⟨gb601, 4, none⟩ = some (.string a0_4) := (blk_cell BK601.out 4).trans rfl; have hcz11_5 : w10.cell? ⟨gb601, 5, none⟩ = some (.int .i64 a0_5) := (blk_cell BK601.out 5).trans rfl; have hcz11_6 : w10.cell? ⟨gb601, 6, none⟩ = some (.slice A0_6 l0_6.length c0_6) := (blk_cell BK601.out 6).trans rfl; have hfz11_0 := blk_frozen BK601.out 0; have hfz11_1 := blk_frozen BK601.out 1; have hfz11_2 := blk_frozen BK601.out 2; have hfz11_3 := blk_frozen BK601.out 3; have hfz11_4 := blk_frozen BK601.out 4; have hfz11_5 := blk_frozen BK601.out 5; have hfz11_6 := blk_frozen BK601.out 6) | ((with_reducible refine gate_callee (f := 77) rfl ?_); refine goesL_ (some 8) rfl rfl Try.func77 (by kernel_rfl) rfl #[.agg #[.int .i64 a0_3, .string a0_4], .int .i64 a1] rfl (by (try simp only [List.map_toArray, List.map_cons, List.map_nil]); first | done | rfl | (simp only [List.length_drop, List.length_take]; rfl)) ?_; (with_reducible refine (laws_szHead.calls a0_3 a0_4 a1 t602 _ A3.out).mono ?_); rintro e w12 ⟨rfl, hb⟩; refine ⟨_, rfl, ?_⟩; have n0_ := Aside0.mk (blk_below (g := gb601) (o := .cells #[.int .i64 a0_0, .int .i64 a0_1, .int .i64 a0_2, .int .i64 a0_3, .string a0_4, .int .i64 a0_5, .slice A0_6 l0_6.length c0_6] 27 (0, 0)) (by (with_reducible repeat (first | refine blk_drewN ?_ _ | refine blk_drew ?_ | refine blk_alloc ?_ _)); exact BK601.out) hb); have n1_ := Aside0.mk (below_step (by repeat (first | (with_reducible first | exact HB.out | apply below_alloc | apply pw_below_drewN | apply below_drew1 | refine below_set ?_ GE601.out) | exact HB.out)) hb); clear BK601; clear HB; have BK601 := n0_; have HB := n1_; clear n0_ n1_; (try clear hb); (try clear hb2); (try clear hk); (try clear hi); have hcz13_0 : w12.cell? ⟨gb601, 0, none⟩ = some (.int .i64 a0_0) := (blk_cell BK601.out 0).trans rfl; have hcz13_1 : w12.cell? ⟨gb601, 1, none⟩ = some (.int .i64 a0_1) := (blk_cell BK601.out 1).trans rfl; have hcz13_2 : w12.cell? ⟨gb601, 2, none⟩ = some (.int .i64 a0_2) := (blk_cell BK601.out 2).trans rfl; have hcz13_3 : w12.cell? ⟨gb601, 3, none⟩ = some (.int .i64 a0_3) := (blk_cell BK601.out 3).trans rfl; have hcz13_4 : w12.cell? ⟨gb601, 4, none⟩ = some (.string a0_4) := (blk_cell BK601.out 4).trans rfl; have hcz13_5 : w12.cell? ⟨gb601, 5, none⟩ = some (.int .i64 a0_5) := (blk_cell BK601.out 5).trans rfl; have hcz13_6 : w12.cell? ⟨gb601, 6, none⟩ = some (.slice A0_6 l0_6.length c0_6) := (blk_cell BK601.out 6).trans rfl; have hfz13_0 := blk_frozen BK601.out 0; have hfz13_1 := blk_frozen BK601.out 1; have hfz13_2 := blk_frozen BK601.out 2; have hfz13_3 := blk_frozen BK601.out 3; have hfz13_4 := blk_frozen BK601.out 4; have hfz13_5 := blk_frozen BK601.out 5; have hfz13_6 := blk_frozen BK601.out 6) | ((with_reducible refine gate_callee (f := 42) rfl ?_); refine goesL_ (some 14) rfl rfl Try.func42 (by kernel_rfl) rfl #[.slice A0_6 l0_6.length c0_6, .int .i64 t602] rfl (by (try simp only [List.map_toArray, List.map_cons, List.map_nil]); first | done | rfl | (simp only [List.length_drop, List.length_take]; rfl)) ?_; (with_reducible refine (laws_szStringS.calls k _ _ l0_6 t602 t603 _ ?side1 ?side2 A8.out).mono ?_); (case side1 => repeat (first | exact (Kd.C_below HR0_6.out HB.out) | (with_reducible refine Kd.C_alloc ?_ _) | (with_reducible refine Kd.C_drewN ?_ _) | (with_reducible refine Kd.C_drew ?_))); (case side2 => exact HC0_6.out); rintro e w' ⟨rfl, ⟨nd, rfl⟩⟩; refine ⟨_, rfl, ?_⟩))
   go_ret
   exact ⟨by first | rfl | (simp [errW_none, errW_some] <;> rfl) | (simp [*, errW_none, errW_some] <;> rfl), by repeat (first | (with_reducible first | exact HB.out | apply below_alloc | apply pw_below_drewN | apply below_drew1 | refine below_set ?_ GE601.out) | exact HB.out)⟩
  ·rw [if_neg c9] at H
   have c9b0 : decide (t603 < 0) = false := decide_eq_false c9
   clear c9
   obtain rfl := Option.some.inj H
   go_enter Try.func17, Try.ntmps17
   go_wp2_with (first | ((with_reducible refine gate_dst (N := 2) rfl ?_); refine box_event ?hg (N := 2) ?hd (cs := #[.int .i64 a0_0, .int .i64 a0_1, .int .i64 a0_2, .int .i64 a0_3, .string a0_4, .int .i64 a0_5, .slice A0_6 l0_6.length c0_6]) (t := 27) ?hr ?_; (case hd => rfl); (case hg => rfl); (case hr => first | (go_simp; done) | (go_simp; rfl)); intro gb601 hg w14 hbox hb; have n0_ := Aside0.mk (below_step (by repeat (first | (with_reducible first | exact HB.out | apply below_alloc | apply pw_below_drewN | apply below_drew1) | exact HB.out)) hb); have n1_ := Aside0.mk (hbox); have n2_ := Aside0.mk ((by rw [hg]; exact (below_size (by repeat (first | (with_reducible first | exact HB.out | apply below_alloc | apply pw_below_drewN | apply below_drew1) | exact HB.out))) : w.heap.size ≤ gb601)); have n3_ := Aside0.mk ((by rw [hg]; exact (below_size (by repeat (first | (with_reducible first | exact HB.out | apply below_alloc | apply pw_below_drewN | apply below_drew1) | exact HB.out))) : w.heap.size ≤ gb601)); clear HB; have HB := n0_; have BK601 := n1_; have GW601 := n2_; have GE601 := n3_; clear n0_ n1_ n2_ n3_; clear hb hbox hg; have hcz15_0 : w14.cell? ⟨gb601, 0, none⟩ = some (.int .i64 a0_0) := (blk_cell BK601.out 0).trans rfl; have hcz15_1 : w14.cell? ⟨gb601, 1, none⟩ = some (.int .i64 a0_1) := (blk_cell BK601.out 1).trans rfl; have hcz15_2 : w14.cell? ⟨gb601, 2, none⟩ = some (.int .i64 a0_2) := (blk_cell BK601.out 2).trans rfl; have hcz15_3 : w14.cell? ⟨gb601, 3, none⟩ = some (.int .i64 a0_3) := (blk_cell BK601.out 3).trans rfl; have hcz15_4 : w14.cell? ⟨gb601, 4, none⟩ = some (.string a0_4) := (blk_cell BK601.out 4).trans rfl; have hcz15_5 : w14.cell? ⟨gb601, 5, none⟩ = some (.int .i64 a0_5) := (blk_cell BK601.out 5).trans rfl; have hcz15_6 : w14.cell? ⟨gb601, 6, none⟩ = some (.slice A0_6 l0_6.length c0_6) := (blk_cell BK601.out 6).trans rfl; have hfz15_0 := blk_frozen BK601.out 0; have hfz15_1 := blk_frozen BK601.out 1; have hfz15_2 := blk_frozen BK601.out 2; have hfz15_3 := blk_frozen BK601.out 3; have hfz15_4 := blk_frozen BK601.out 4; have hfz15_5 := blk_frozen BK601.out 5; have hfz15_6 := blk_frozen BK601.out 6) | ((with_reducible refine gate_callee (f := 77) rfl ?_); refine goesL_ (some 8) rfl rfl Try.func77 (by kernel_rfl) rfl #[.agg #[.int .i64 a0_3, .string a0_4], .int .i64 a1] rfl (by (try simp only [List.map_toArray, List.map_cons, List.map_nil]); first | done | rfl | (simp only [List.length_drop, List.length_take]; rfl)) ?_; (with_reducible refine (laws_szHead.calls a0_3 a0_4 a1 t602 _ A3.out).mono ?_); rintro e w16 ⟨rfl, hb⟩; refine ⟨_, rfl, ?_⟩; have n0_ := Aside0.mk (blk_below (g := gb601) (o := .cells #[.int .i64 a0_0, .int .i64 a0_1, .int .i64 a0_2, .int .i64 a0_3, .string a0_4, .int .i64 a0_5, .slice A0_6 l0_6.length c0_6] 27 (0, 0)) (by (with_reducible repeat (first | refine blk_drewN ?_ _ | refine blk_drew ?_ | refine blk_alloc ?_ _)); exact BK601.out) hb); have n1_ := Aside0.mk (below_step (by repeat (first | (with_reducible first | exact HB.out | apply below_alloc | apply pw_below_drewN | apply below_drew1 | refine below_set ?_ GE601.out) | exact HB.out)) hb); clear BK601; clear HB; have BK601 := n0_; have HB := n1_; clear n0_ n1_; (try clear hb); (try clear hb2); (try clear hk); (try clear hi); have hcz17_0 : w16.cell? ⟨gb601, 0, none⟩ = some (.int .i64 a0_0) := (blk_cell BK601.out 0).trans rfl; have hcz17_1 : w16.cell? ⟨gb601, 1, none⟩ = some (.int .i64 a0_1) := (blk_cell BK601.out 1).trans rfl; have hcz17_2 : w16.cell? ⟨gb601, 2, none⟩ = some (.int .i64 a0_2) := (blk_cell BK601.out 2).trans rfl; have hcz17_3 : w16.cell? ⟨gb601, 3, none⟩ = some (.int .i64 a0_3) := (blk_cell BK601.out 3).trans rfl; have hcz17_4 : w16.cell? ⟨gb601, 4, none⟩ = some (.string a0_4) := (blk_cell BK601.out 4).trans rfl; have hcz17_5 : w16.cell? ⟨gb601, 5, none⟩ = some (.int .i64 a0_5) := (blk_cell BK601.out 5).trans rfl; have hcz17_6 : w16.cell? ⟨gb601, 6, none⟩ = some (.slice A0_6 l0_6.length c0_6) := (blk_cell BK601.out 6).trans rfl; have hfz17_0 := blk_frozen BK601.out 0; have hfz17_1 := blk_frozen BK601.out 1; have hfz17_2 := blk_frozen BK601.out 2; have hfz17_3 := blk_frozen BK601.out 3; have hfz17_4 := blk_frozen BK601.out 4; have hfz17_5 := blk_frozen BK601.out 5; have hfz17_6 := blk_frozen BK601.out 6) | ((with_reducible refine gate_callee (f := 42) rfl ?_); refine goesL_ (some 14) rfl rfl Try.func42 (by kernel_rfl) rfl #[.slice A0_6 l0_6.length c0_6, .int .i64 t602] rfl (by (try simp only [List.map_toArray, List.map_cons, List.map_nil]); first | done | rfl | (simp only [List.length_drop, List.length_take]; rfl)) ?_; (with_reducible refine (laws_szStringS.calls k _ _ l0_6 t602 t603 _ ?side1 ?side2 A8.out).mono ?_); (case side1 => repeat (first | exact (Kd.C_below HR0_6.out HB.out) | (with_reducible refine Kd.C_alloc ?_ _) | (with_reducible refine Kd.C_drewN ?_ _) | (with_reducible refine Kd.C_drew ?_))); (case side2 => exact HC0_6.out); rintro e w' ⟨rfl, ⟨nd, rfl⟩⟩; refine ⟨_, rfl, ?_⟩))
   go_ret
   exact ⟨by first | rfl | (simp [errW_none, errW_some] <;> rfl) | (simp [*, errW_none, errW_some] <;> rfl), by repeat (first | (with_reducible first | exact HB.out | apply below_alloc | apply pw_below_drewN | apply below_drew1 | refine below_set ?_ GE601.out) | exact HB.out)⟩

end Go.Proofs.Ytcogimnpffnanaa.Q
end
