-- Joined and shortened by a program of this session (wip/tools/shakecopy.py): the words of the print, texts of pp.sh and of mine.
import Derived.Test.YtcogimnpffnanaaKFnExactStoreOk9
import Derived.Test.YtcogimnpffnanaaRows
import Derived.WalkKit
import Derived.ProofKit
import Derived.OpenShut
import Derived.ShutString
import Derived.ChangeOld
import Derived.Below
import Derived.SizedLaws
import Derived.Carry
section
namespace Go.Proofs.Ytcogimnpffnanaa.Q
open Go.RowKit Go.Proofs.YtcogimnpffnanaaW.PrintWords Go.Proofs.YtcogimnpffnanaaW.PrintLast Go.Proofs.YtcogimnpffnanaaW.PrintMore
attribute [local go_sem] max2_int min2_int max_two min_two max_three min_three max_four min_four   -- for this text's walks alone
set_option linter.unusedVariables false
set_option linter.unusedSimpArgs false
def laws_FnExactStoreOk.f (k : Nat) (l0_0 : List ByteArray) (a0_1 : Int) (a0_2 : ByteArray) (l0_3 : List Int) (a0_4 : Int) : Option (Bool) := (laws_szStore.f k l0_0 a0_1 a0_2 l0_3 a0_4 1048576).bind fun t602 => (if t602 < 0 then (some true) else ((laws_toStore.f k l0_0 a0_1 a0_2 l0_3 a0_4).bind fun bt603 => ((spec_StoreOk.f k bt603.1 bt603.2.1 bt603.2.2.1 bt603.2.2.2.1 bt603.2.2.2.2).bind fun t612 => ((laws_toStore.f k l0_0 a0_1 a0_2 l0_3 a0_4).bind fun bt613 => ((impl_StoreOk.f k bt613.1 bt613.2.1 bt613.2.2.1 bt613.2.2.2.1 bt613.2.2.2.2).bind fun t623 => (if (t623 != t612) = true then (none) else ((laws_toStore.f k l0_0 a0_1 a0_2 l0_3 a0_4).bind fun bt624 => ((laws_eqStore.f k bt613.1 bt613.2.1 bt613.2.2.1 bt613.2.2.2.1 bt613.2.2.2.2 bt624.1 bt624.2.1 bt624.2.2.1 bt624.2.2.2.1 bt624.2.2.2.2).bind fun t633 => (if t633 = true then (some true) else (none))))))))))
theorem laws_FnExactStoreOk.mono : ∀ a0 a1 a2 a3 a4 k, LeO (laws_FnExactStoreOk.f k a0 a1 a2 a3 a4) (laws_FnExactStoreOk.f (k + 1) a0 a1 a2 a3 a4) := by
 intro a0 a1 a2 a3 a4 k
 unfold laws_FnExactStoreOk.f
 repeat' (with_reducible first | exact LeO.refl _ | exact LeO.none _ | apply impl_StoreOk.mono | apply laws_eqStore.mono | apply laws_szStore.mono | apply laws_toStore.mono | apply spec_StoreOk.mono | apply LeO.ite | refine LeO.bind ?_ fun _ => ?_)
set_option maxHeartbeats 8000000 in
set_option maxRecDepth 100000 in
theorem laws_FnExactStoreOk.calls (k : Nat) (A0_0 : Option Addr) (c0_0 : Nat) (l0_0 : List ByteArray) (a0_1 : Int) (a0_2 : ByteArray) (A0_3 : Option Addr) (c0_3 : Nat) (l0_3 : List Int) (a0_4 : Int) (r : Bool) (w : World) (hr0_0 : Kd.C Kd.string w A0_0 l0_0.length l0_0) (hc0_0 : l0_0.length ≤ c0_0) (hr0_3 : Kd.C (Kd.int .u8) w A0_3 l0_3.length l0_3) (hc0_3 : l0_3.length ≤ c0_3) (h : laws_FnExactStoreOk.f k l0_0 a0_1 a0_2 l0_3 a0_4 = some r) :
  Calls Try.prog 14 #[.agg #[.slice A0_0 l0_0.length c0_0, .int .i64 a0_1, .string a0_2, .slice A0_3 l0_3.length c0_3, .int .i64 a0_4]] w fun e w' => e = .returned (.bool r) ∧ Below w.heap.size w w' := by
 have hu111 := Try.underlying111
 have hu88 := Try.underlying88
 have HR0_0 := Aside0.mk hr0_0
 have HC0_0 := Aside0.mk hc0_0
 clear hr0_0 hc0_0
 have HR0_3 := Aside0.mk hr0_3
 have HC0_3 := Aside0.mk hc0_3
 clear hr0_3 hc0_3
 have HB := Aside0.mk (Below.refl w.heap.size w)
 have H : ((laws_szStore.f k l0_0 a0_1 a0_2 l0_3 a0_4 1048576).bind fun t602 => (if t602 < 0 then (some true) else ((laws_toStore.f k l0_0 a0_1 a0_2 l0_3 a0_4).bind fun bt603 => ((spec_StoreOk.f k bt603.1 bt603.2.1 bt603.2.2.1 bt603.2.2.2.1 bt603.2.2.2.2).bind fun t612 => ((laws_toStore.f k l0_0 a0_1 a0_2 l0_3 a0_4).bind fun bt613 => ((impl_StoreOk.f k bt613.1 bt613.2.1 bt613.2.2.1 bt613.2.2.2.1 bt613.2.2.2.2).bind fun t623 => (if (t623 != t612) = true then (none) else ((laws_toStore.f k l0_0 a0_1 a0_2 l0_3 a0_4).bind fun bt624 => ((laws_eqStore.f k bt613.1 bt613.2.1 bt613.2.2.1 bt613.2.2.2.1 bt613.2.2.2.2 bt624.1 bt624.2.1 bt624.2.2.1 bt624.2.2.2.1 bt624.2.2.2.2).bind fun t633 => (if t633 = true then (some true) else (none))))))))))) = some r := h
 clear h
 replace H := Option.bind_eq_some_iff.mp H
 obtain ⟨t602, A20, H⟩ := H
 have A2 := Aside0.mk A20
 clear A20
 by_cases c3 : t602 < 0
 ·rw [if_pos c3] at H
  have c3b0 := decide_eq_true c3
  clear c3
  obtain rfl := Option.some.inj H
  go_enter Try.func14, Try.ntmps14
  go_wp2_with (first | ((with_reducible refine gate_dst (N := 1) rfl ?_); refine box_event ?hg (N := 1) ?hd (cs := #[.slice A0_0 l0_0.length c0_0, .int .i64 a0_1, .string a0_2, .slice A0_3 l0_3.length c0_3, .int .i64 a0_4]) (t := 111) ?hr ?_; (case hd => rfl); (case hg => rfl); (case hr => first | (go_simp; done) | (go_simp; rfl)); intro gb601 hg w4 hbox hb; have BK601 := Aside0.mk (hbox); have GW601 := Aside0.mk ((by rw [hg]; exact (below_size (bw_ HB)) : w.heap.size ≤ gb601)); have GE601 := Aside0.mk ((by rw [hg]; exact (below_size (bw_ HB)) : w.heap.size ≤ gb601)); replace HB := Aside0.mk (below_step (bw_ HB) hb); clear hb hbox hg; have hcz5_0 := bc0_ BK601.out; have hcz5_1 := bc1_ BK601.out; have hcz5_2 := bc2_ BK601.out; have hcz5_3 := bc3_ BK601.out; have hcz5_4 := bc4_ BK601.out; have hfz5_0 := blk_frozen BK601.out 0; have hfz5_1 := blk_frozen BK601.out 1; have hfz5_2 := blk_frozen BK601.out 2; have hfz5_3 := blk_frozen BK601.out 3; have hfz5_4 := blk_frozen BK601.out 4) | ((with_reducible refine gk_ 87 ?_); refine gl_ 9 Try.func87 #[.agg #[.slice A0_0 l0_0.length c0_0, .int .i64 a0_1, .string a0_2, .slice A0_3 l0_3.length c0_3, .int .i64 a0_4], .int .i64 1048576] ?_; (with_reducible refine (laws_szStore.calls k _ _ l0_0 a0_1 a0_2 _ _ l0_3 a0_4 1048576 t602 _ ?side1 ?side2 ?side3 ?side4 A2.out).mono ?_); (case side1 => exact cr_ (Kd.C_below HR0_0.out HB.out)); (case side2 => exact HC0_0.out); (case side3 => exact cr_ (Kd.C_below HR0_3.out HB.out)); (case side4 => exact HC0_3.out); rintro e w6 ⟨rfl, hb⟩; refine ⟨_, rfl, ?_⟩; replace BK601 := Aside0.mk (blk_below (kb_ BK601.out) hb); replace HB := Aside0.mk (below_step (bs1_ HB GE601.out) hb); clear hb))
  go_ret
  exact ⟨e2_, by repeat (first | (with_reducible first | exact HB.out | apply below_alloc | apply pw_below_drewN | apply below_drew1 | refine below_set ?_ GE601.out) | exact HB.out)⟩
 ·rw [if_neg c3] at H
  have c3b0 := decide_eq_false c3
  clear c3
  replace H := Option.bind_eq_some_iff.mp H
  obtain ⟨⟨t603, t606, t607, t608, t611⟩, A70, H⟩ := H
  dsimp only at H
  have A7 := Aside0.mk A70
  clear A70
  replace H := Option.bind_eq_some_iff.mp H
  obtain ⟨t612, A80, H⟩ := H
  have A8 := Aside0.mk A80
  clear A80
  replace H := Option.bind_eq_some_iff.mp H
  obtain ⟨⟨t613, t616, t617, t618, t621⟩, A90, H⟩ := H
  dsimp only at H
  have A9 := Aside0.mk A90
  clear A90
  replace H := Option.bind_eq_some_iff.mp H
  obtain ⟨t623, A100, H⟩ := H
  have A10 := Aside0.mk A100
  clear A100
  by_cases c11 : (t623 != t612) = true
  ·rw [if_pos c11] at H
   exact absurd H (by simp)
  ·rw [if_neg c11] at H
   have c11b0 : (t623 != t612) = false := by simpa using c11
   (try (have c11b1 : decide (t623 = t612) = true := by simpa using c11))
   (try (have c11b2 : (t623 == t612) = true := by simpa using c11))
   clear c11
   replace H := Option.bind_eq_some_iff.mp H
   obtain ⟨⟨t624, t627, t628, t629, t632⟩, A120, H⟩ := H
   dsimp only at H
   have A12 := Aside0.mk A120
   clear A120
   replace H := Option.bind_eq_some_iff.mp H
   obtain ⟨t633, A130, H⟩ := H
   have A13 := Aside0.mk A130
   clear A130
   by_cases c14 : t633 = true
   ·subst c14
    rw [if_pos rfl] at H
    obtain rfl := Option.some.inj H
    go_enter Try.func14, Try.ntmps14
    try go_wp2_with (first | ((with_reducible refine gate_dst (N := 1) rfl ?_); refine box_event ?hg (N := 1) ?hd (cs := #[.slice A0_0 l0_0.length c0_0, .int .i64 a0_1, .string a0_2, .slice A0_3 l0_3.length c0_3, .int .i64 a0_4]) (t := 111) ?hr ?_; (case hd => rfl); (case hg => rfl); (case hr => first | (go_simp; done) | (go_simp; rfl)); intro gb601 hg w15 hbox hb; have BK601 := Aside0.mk (hbox); have GW601 := Aside0.mk ((by rw [hg]; exact (below_size (bw_ HB)) : w.heap.size ≤ gb601)); have GE601 := Aside0.mk ((by rw [hg]; exact (below_size (bw_ HB)) : w.heap.size ≤ gb601)); replace HB := Aside0.mk (below_step (bw_ HB) hb); clear hb hbox hg; have hcz16_0 := bc0_ BK601.out; have hcz16_1 := bc1_ BK601.out; have hcz16_2 := bc2_ BK601.out; have hcz16_3 := bc3_ BK601.out; have hcz16_4 := bc4_ BK601.out; have hfz16_0 := blk_frozen BK601.out 0; have hfz16_1 := blk_frozen BK601.out 1; have hfz16_2 := blk_frozen BK601.out 2; have hfz16_3 := blk_frozen BK601.out 3; have hfz16_4 := blk_frozen BK601.out 4) | ((with_reducible refine gk_ 87 ?_); refine gl_ 9 Try.func87 #[.agg #[.slice A0_0 l0_0.length c0_0, .int .i64 a0_1, .string a0_2, .slice A0_3 l0_3.length c0_3, .int .i64 a0_4], .int .i64 1048576] ?_; (with_reducible refine (laws_szStore.calls k _ _ l0_0 a0_1 a0_2 _ _ l0_3 a0_4 1048576 t602 _ ?side1 ?side2 ?side3 ?side4 A2.out).mono ?_); (case side1 => exact cr_ (Kd.C_below HR0_0.out HB.out)); (case side2 => exact HC0_0.out); (case side3 => exact cr_ (Kd.C_below HR0_3.out HB.out)); (case side4 => exact HC0_3.out); rintro e w17 ⟨rfl, hb⟩; refine ⟨_, rfl, ?_⟩; replace BK601 := Aside0.mk (blk_below (kb_ BK601.out) hb); replace HB := Aside0.mk (below_step (bs1_ HB GE601.out) hb); clear hb; have hcz18_0 := bc0_ BK601.out; have hcz18_1 := bc1_ BK601.out; have hcz18_2 := bc2_ BK601.out; have hcz18_3 := bc3_ BK601.out; have hcz18_4 := bc4_ BK601.out; have hfz18_0 := blk_frozen BK601.out 0; have hfz18_1 := blk_frozen BK601.out 1; have hfz18_2 := blk_frozen BK601.out 2; have hfz18_3 := blk_frozen BK601.out 3; have hfz18_4 := blk_frozen BK601.out 4) | ((with_reducible refine gk_ 89 ?_); refine gl_ 13 Try.func89 #[.agg #[.slice A0_0 l0_0.length c0_0, .int .i64 a0_1, .string a0_2, .slice A0_3 l0_3.length c0_3, .int .i64 a0_4]] ?_; (with_reducible refine (laws_toStore.calls k _ _ l0_0 a0_1 a0_2 _ _ l0_3 a0_4 t603 t606 t607 t608 t611 _ ?side1 ?side2 ?side3 ?side4 A7.out).mono ?_); (case side1 => exact cr_ (Kd.C_below HR0_0.out HB.out)); (case side2 => exact HC0_0.out); (case side3 => exact cr_ (Kd.C_below HR0_3.out HB.out)); (case side4 => exact HC0_3.out); rintro e w19 ⟨v604, v609, rfl, ho0, ho1, hb⟩; refine ⟨_, rfl, ?_⟩; have HO605 := Aside0.mk (Kd.R_lower ho0 (below_size (bs1_ HB GE601.out))); have HO610 := Aside0.mk (Kd.R_lower ho1 (below_size (bs1_ HB GE601.out))); replace BK601 := Aside0.mk (blk_below (kb_ BK601.out) hb); replace HB := Aside0.mk (below_step (bs1_ HB GE601.out) hb); clear hb ho0 ho1; obtain ⟨Ao20, co20, eo20⟩ := Kd.R_slice HO605.out; subst eo20; obtain ⟨Ao21, co21, eo21⟩ := Kd.R_slice HO610.out; subst eo21) | ((with_reducible refine gk_ 88 ?_); refine gl_ 14 Try.func88 #[.agg #[.slice Ao20 t603.length co20, .int .i64 t606, .string t607, .slice Ao21 t608.length co21, .int .i64 t611]] ?_; (with_reducible refine (spec_StoreOk.calls k _ _ t603 t606 t607 _ _ t608 t611 t612 _ ?side1 ?side2 ?side3 ?side4 A8.out).mono ?_); (case side1 => exact cr_ (Kd.R_reads' HO605.out).2.2); (case side2 => exact (Kd.R_reads' HO605.out).2.1); (case side3 => exact cr_ (Kd.R_reads' HO610.out).2.2); (case side4 => exact (Kd.R_reads' HO610.out).2.1); rintro e w22 ⟨rfl, hb⟩; refine ⟨_, rfl, ?_⟩; replace HO605 := Aside0.mk (Kd.R_below (kr_ HO605.out) hb); replace HO610 := Aside0.mk (Kd.R_below (kr_ HO610.out) hb); replace BK601 := Aside0.mk (blk_below (kb_ BK601.out) hb); replace HB := Aside0.mk (below_step (bs1_ HB GE601.out) hb); clear hb; have hcz23_0 := bc0_ BK601.out; have hcz23_1 := bc1_ BK601.out; have hcz23_2 := bc2_ BK601.out; have hcz23_3 := bc3_ BK601.out; have hcz23_4 := bc4_ BK601.out; have hfz23_0 := blk_frozen BK601.out 0; have hfz23_1 := blk_frozen BK601.out 1; have hfz23_2 := blk_frozen BK601.out 2; have hfz23_3 := blk_frozen BK601.out 3; have hfz23_4 := blk_frozen BK601.out 4) | ((with_reducible refine gk_ 89 ?_); refine gl_ 16 Try.func89 #[.agg #[.slice A0_0 l0_0.length c0_0, .int .i64 a0_1, .string a0_2, .slice A0_3 l0_3.length c0_3, .int .i64 a0_4]] ?_; (with_reducible refine (laws_toStore.calls k _ _ l0_0 a0_1 a0_2 _ _ l0_3 a0_4 t613 t616 t617 t618 t621 _ ?side1 ?side2 ?side3 ?side4 A9.out).mono ?_); (case side1 => exact cr_ (Kd.C_below HR0_0.out HB.out)); (case side2 => exact HC0_0.out); (case side3 => exact cr_ (Kd.C_below HR0_3.out HB.out)); (case side4 => exact HC0_3.out); rintro e w24 ⟨v614, v619, rfl, ho0, ho1, hb⟩; refine ⟨_, rfl, ?_⟩; have HO615 := Aside0.mk (Kd.R_lower (Kd.R_new' ho0 (Kd.R_lt (kr_ HO605.out))) (below_size (bs1_ HB GE601.out))); replace HO605 := Aside0.mk (Kd.R_elder' (kr_ HO605.out) (Kd.R_base ho0) hb); have HO620 := Aside0.mk (Kd.R_lower (Kd.R_new' ho1 (Kd.R_lt (kr_ HO610.out))) (below_size (bs1_ HB GE601.out))); replace HO610 := Aside0.mk (Kd.R_elder' (kr_ HO610.out) (Kd.R_base ho1) hb); replace BK601 := Aside0.mk (blk_below (kb_ BK601.out) hb); replace HB := Aside0.mk (below_step (bs1_ HB GE601.out) hb); clear hb ho0 ho1) | ((with_reducible refine gate_dst (N := 5) rfl ?_); refine box_event ?hg (N := 5) ?hd (cs := #[.slice none 0 0, .int .i64 0, .string (⟨#[]⟩ : ByteArray), .slice none 0 0, .int .i64 0]) (t := 88) ?hr ?_; (case hd => rfl); (case hg => rfl); (case hr => first | (go_simp; done) | (go_simp; rfl)); intro gb622 hg w25 hbox hb; replace HO605 := Aside0.mk (Kd.R_below (kr_ HO605.out) hb); replace HO610 := Aside0.mk (Kd.R_below (kr_ HO610.out) hb); replace HO615 := Aside0.mk (Kd.R_below (kr_ HO615.out) hb); replace HO620 := Aside0.mk (Kd.R_below (kr_ HO620.out) hb); have BK622 := Aside0.mk (hbox); have GW622 := Aside0.mk ((by rw [hg]; exact (below_size (bs1_ HB GE601.out)) : w.heap.size ≤ gb622)); have GE622 := Aside0.mk ((by rw [hg]; exact (below_size (bs1_ HB GE601.out)) : w.heap.size ≤ gb622)); replace HB := Aside0.mk (below_step (bs1_ HB GE601.out) hb); have NB601_622 := Aside0.mk ((by rw [hg]; exact Nat.ne_of_lt (blk_lt (kb_ BK601.out)) : gb601 ≠ gb622)); have NB622_601 := Aside0.mk ((by rw [hg]; exact Nat.ne_of_gt (blk_lt (kb_ BK601.out)) : gb622 ≠ gb601)); replace BK601 := Aside0.mk (blk_below (kb_ BK601.out) hb); clear hb hbox hg; obtain ⟨Ao26, co26, eo26⟩ := Kd.R_slice HO615.out; subst eo26; have hnb27 := NB622_601.out; have hnc27 := NB601_622.out; have hcz28_0 := bc0_ BK622.out; have hcz28_1 := bc1_ BK622.out; have hcz28_2 := bc2_ BK622.out; have hcz28_3 := bc3_ BK622.out; have hcz28_4 := bc4_ BK622.out; have hfz28_0 := blk_frozen BK622.out 0; have hfz28_1 := blk_frozen BK622.out 1; have hfz28_2 := blk_frozen BK622.out 2; have hfz28_3 := blk_frozen BK622.out 3; have hfz28_4 := blk_frozen BK622.out 4; obtain ⟨Ao29, co29, eo29⟩ := Kd.R_slice HO620.out; subst eo29) | ((with_reducible refine gk_ 70 ?_); refine gl_ 18 Try.func70 #[.agg #[.slice Ao26 t613.length co26, .int .i64 t616, .string t617, .slice Ao29 t618.length co29, .int .i64 t621]] ?_; (with_reducible refine (impl_StoreOk.calls k _ _ t613 t616 t617 _ _ t618 t621 t623 _ ?side1 ?side2 ?side3 ?side4 A10.out).mono ?_); (case side1 => refine (Kd.R_reads' (e := 9) (base := w.heap.size) (ok := fun k_ => (True ∧ some k_ ≠ (.slice Ao20 t603.length co20 : Value).ownBlock)) (n := t613.length) (c := co26) ?_).2.2; exact (kr_ ((Kd.R_mono (Kd.R_far (p := ⟨gb622, 4, none⟩) (Kd.R_far (p := ⟨gb622, 3, none⟩) (Kd.R_far (p := ⟨gb622, 2, none⟩) (Kd.R_far (p := ⟨gb622, 1, none⟩) (Kd.R_far (p := ⟨gb622, 0, none⟩) (Kd.R_types HO615.out BK622.out (by decide)) (fun _ hk => hk.2) (.slice Ao26 t613.length co26)) (fun _ hk => hk.2) (.int .i64 t616)) (fun _ hk => hk.2) (.string t617)) (fun _ hk => hk.2) (.slice Ao29 t618.length co29)) (fun _ hk => hk.2) (.int .i64 t621)) (fun _ h_ => h_.1))))); (case side2 => exact (Kd.R_reads' HO615.out).2.1); (case side3 => refine (Kd.R_reads' (e := 5) (base := w.heap.size) (ok := fun k_ => (True ∧ some k_ ≠ (.slice Ao21 t608.length co21 : Value).ownBlock)) (n := t618.length) (c := co29) ?_).2.2; exact (kr_ ((Kd.R_mono (Kd.R_far (p := ⟨gb622, 4, none⟩) (Kd.R_far (p := ⟨gb622, 3, none⟩) (Kd.R_far (p := ⟨gb622, 2, none⟩) (Kd.R_far (p := ⟨gb622, 1, none⟩) (Kd.R_far (p := ⟨gb622, 0, none⟩) (Kd.R_types HO620.out BK622.out (by decide)) (fun _ hk => hk.2) (.slice Ao26 t613.length co26)) (fun _ hk => hk.2) (.int .i64 t616)) (fun _ hk => hk.2) (.string t617)) (fun _ hk => hk.2) (.slice Ao29 t618.length co29)) (fun _ hk => hk.2) (.int .i64 t621)) (fun _ h_ => h_.1))))); (case side4 => exact (Kd.R_reads' HO620.out).2.1); rintro e w30 ⟨rfl, hb⟩; refine ⟨_, rfl, ?_⟩; replace HO605 := Aside0.mk (Kd.R_below (kr_ ((Kd.R_mono (Kd.R_far (p := ⟨gb622, 4, none⟩) (Kd.R_far (p := ⟨gb622, 3, none⟩) (Kd.R_far (p := ⟨gb622, 2, none⟩) (Kd.R_far (p := ⟨gb622, 1, none⟩) (Kd.R_far (p := ⟨gb622, 0, none⟩) (Kd.R_types HO605.out BK622.out (by decide)) (fun _ hk => hk.2) (.slice Ao26 t613.length co26)) (fun _ hk => hk.2) (.int .i64 t616)) (fun _ hk => hk.2) (.string t617)) (fun _ hk => hk.2) (.slice Ao29 t618.length co29)) (fun _ hk => hk.2) (.int .i64 t621)) (fun _ h_ => h_.1)))) hb); replace HO610 := Aside0.mk (Kd.R_below (kr_ ((Kd.R_mono (Kd.R_far (p := ⟨gb622, 4, none⟩) (Kd.R_far (p := ⟨gb622, 3, none⟩) (Kd.R_far (p := ⟨gb622, 2, none⟩) (Kd.R_far (p := ⟨gb622, 1, none⟩) (Kd.R_far (p := ⟨gb622, 0, none⟩) (Kd.R_types HO610.out BK622.out (by decide)) (fun _ hk => hk.2) (.slice Ao26 t613.length co26)) (fun _ hk => hk.2) (.int .i64 t616)) (fun _ hk => hk.2) (.string t617)) (fun _ hk => hk.2) (.slice Ao29 t618.length co29)) (fun _ hk => hk.2) (.int .i64 t621)) (fun _ h_ => h_.1)))) hb); replace HO615 := Aside0.mk (Kd.R_below (kr_ ((Kd.R_mono (Kd.R_far (p := ⟨gb622, 4, none⟩) (Kd.R_far (p := ⟨gb622, 3, none⟩) (Kd.R_far (p := ⟨gb622, 2, none⟩) (Kd.R_far (p := ⟨gb622, 1, none⟩) (Kd.R_far (p := ⟨gb622, 0, none⟩) (Kd.R_types HO615.out BK622.out (by decide)) (fun _ hk => hk.2) (.slice Ao26 t613.length co26)) (fun _ hk => hk.2) (.int .i64 t616)) (fun _ hk => hk.2) (.string t617)) (fun _ hk => hk.2) (.slice Ao29 t618.length co29)) (fun _ hk => hk.2) (.int .i64 t621)) (fun _ h_ => h_.1)))) hb); replace HO620 := Aside0.mk (Kd.R_below (kr_ ((Kd.R_mono (Kd.R_far (p := ⟨gb622, 4, none⟩) (Kd.R_far (p := ⟨gb622, 3, none⟩) (Kd.R_far (p := ⟨gb622, 2, none⟩) (Kd.R_far (p := ⟨gb622, 1, none⟩) (Kd.R_far (p := ⟨gb622, 0, none⟩) (Kd.R_types HO620.out BK622.out (by decide)) (fun _ hk => hk.2) (.slice Ao26 t613.length co26)) (fun _ hk => hk.2) (.int .i64 t616)) (fun _ hk => hk.2) (.string t617)) (fun _ hk => hk.2) (.slice Ao29 t618.length co29)) (fun _ hk => hk.2) (.int .i64 t621)) (fun _ h_ => h_.1)))) hb); replace BK601 := Aside0.mk (blk_below (g := gb601) (o := .cells #[.slice A0_0 l0_0.length c0_0, .int .i64 a0_1, .string a0_2, .slice A0_3 l0_3.length c0_3, .int .i64 a0_4] 111 (0, 0)) (by (with_reducible repeat (first | refine blk_drewN ?_ _ | refine blk_drew ?_ | refine blk_alloc ?_ _)); refine blk_far ?_ NB601_622.out _; (with_reducible repeat (first | refine blk_drewN ?_ _ | refine blk_drew ?_ | refine blk_alloc ?_ _)); refine blk_far ?_ NB601_622.out _; (with_reducible repeat (first | refine blk_drewN ?_ _ | refine blk_drew ?_ | refine blk_alloc ?_ _)); refine blk_far ?_ NB601_622.out _; (with_reducible repeat (first | refine blk_drewN ?_ _ | refine blk_drew ?_ | refine blk_alloc ?_ _)); refine blk_far ?_ NB601_622.out _; (with_reducible repeat (first | refine blk_drewN ?_ _ | refine blk_drew ?_ | refine blk_alloc ?_ _)); refine blk_far ?_ NB601_622.out _; (with_reducible repeat (first | refine blk_drewN ?_ _ | refine blk_drew ?_ | refine blk_alloc ?_ _)); exact BK601.out) hb); replace BK622 := Aside0.mk (blk_below (g := gb622) (o := .cells #[.slice Ao26 t613.length co26, .int .i64 t616, .string t617, .slice Ao29 t618.length co29, .int .i64 t621] 88 (0, 0)) (by (with_reducible repeat (first | refine blk_drewN ?_ _ | refine blk_drew ?_ | refine blk_alloc ?_ _)); refine blk_put (cs := #[.slice Ao26 t613.length co26, .int .i64 t616, .string t617, .slice Ao29 t618.length co29, .int .i64 0]) ?_ 4 _ rfl; (with_reducible repeat (first | refine blk_drewN ?_ _ | refine blk_drew ?_ | refine blk_alloc ?_ _)); refine blk_put (cs := #[.slice Ao26 t613.length co26, .int .i64 t616, .string t617, .slice none 0 0, .int .i64 0]) ?_ 3 _ rfl; (with_reducible repeat (first | refine blk_drewN ?_ _ | refine blk_drew ?_ | refine blk_alloc ?_ _)); refine blk_put (cs := #[.slice Ao26 t613.length co26, .int .i64 t616, .string (⟨#[]⟩ : ByteArray), .slice none 0 0, .int .i64 0]) ?_ 2 _ rfl; (with_reducible repeat (first | refine blk_drewN ?_ _ | refine blk_drew ?_ | refine blk_alloc ?_ _)); refine blk_put (cs := #[.slice Ao26 t613.length co26, .int .i64 0, .string (⟨#[]⟩ : ByteArray), .slice none 0 0, .int .i64 0]) ?_ 1 _ rfl; (with_reducible repeat (first | refine blk_drewN ?_ _ | refine blk_drew ?_ | refine blk_alloc ?_ _)); refine blk_put (cs := #[.slice none 0 0, .int .i64 0, .string (⟨#[]⟩ : ByteArray), .slice none 0 0, .int .i64 0]) ?_ 0 _ rfl; (with_reducible repeat (first | refine blk_drewN ?_ _ | refine blk_drew ?_ | refine blk_alloc ?_ _)); exact BK622.out) hb); replace HB := Aside0.mk (below_step (bs2_ HB GE601.out GE622.out) hb); clear hb))
    have n0_ := Aside0.mk (Kd.R_drew HO605.out)
    have n1_ := Aside0.mk (Kd.R_drew HO610.out)
    have n2_ := Aside0.mk (Kd.R_drew HO615.out)
    have n3_ := Aside0.mk (Kd.R_drew HO620.out)
    have n4_ := Aside0.mk (blk_drew BK601.out)
    have n5_ := Aside0.mk (blk_drew BK622.out)
    have n6_ := Aside0.mk (below_drew1 HB.out)
    clear HO605
    clear HO610
    clear HO615
    clear HO620
    clear BK601
    clear BK622
    clear HB
    have HO605 := n0_
    have HO610 := n1_
    have HO615 := n2_
    have HO620 := n3_
    have BK601 := n4_
    have BK622 := n5_
    have HB := n6_
    clear n0_ n1_ n2_ n3_ n4_ n5_ n6_
    refine start_ (n := 5) (S := fun w' => w'.cell? ⟨gb622, 0, none⟩ = some (.slice Ao26 t613.length co26) ∧ w'.cell? ⟨gb622, 1, none⟩ = some (.int .i64 t616) ∧ w'.cell? ⟨gb622, 2, none⟩ = some (.string t617) ∧ w'.cell? ⟨gb622, 3, none⟩ = some (.slice Ao29 t618.length co29) ∧ w'.cell? ⟨gb622, 4, none⟩ = some (.int .i64 t621) ∧ w'.cell? ⟨gb601, 0, none⟩ = some (.slice A0_0 l0_0.length c0_0) ∧ w'.cell? ⟨gb601, 1, none⟩ = some (.int .i64 a0_1) ∧ w'.cell? ⟨gb601, 2, none⟩ = some (.string a0_2) ∧ w'.cell? ⟨gb601, 3, none⟩ = some (.slice A0_3 l0_3.length c0_3) ∧ w'.cell? ⟨gb601, 4, none⟩ = some (.int .i64 a0_4)) (ds := []) (lz_ 5 0) (by kernel_rfl) rfl rfl ⟨(blk_cell BK622.out 0).trans rfl, (blk_cell BK622.out 1).trans rfl, (blk_cell BK622.out 2).trans rfl, (blk_cell BK622.out 3).trans rfl, (blk_cell BK622.out 4).trans rfl, (blk_cell BK601.out 0).trans rfl, (blk_cell BK601.out 1).trans rfl, (blk_cell BK601.out 2).trans rfl, (blk_cell BK601.out 3).trans rfl, (blk_cell BK601.out 4).trans rfl⟩ (fun hHeld => ?_)
    generalize w30.drew = w31 at HO605 HO610 HO615 HO620 BK601 BK622 HB hHeld ⊢
    refine tk_ 0 22 1 ?_
    refine tk_ 1 23 3 ?_
    refine one_ (i := 2) (N := some 24) (lz_ 5 7) rfl rfl (by kernel_rfl) (by decide) (fun K hK => ?_)
    refine goes_ Try.func89 (by kernel_rfl) rfl #[.agg #[.slice A0_0 l0_0.length c0_0, .int .i64 a0_1, .string a0_2, .slice A0_3 l0_3.length c0_3, .int .i64 a0_4]] (by rfl) rfl rfl (by (try simp only [List.map_toArray, List.map_cons, List.map_nil]); first | done | rfl | (simp only [List.length_drop, List.length_take]; rfl)) ?_
    with_reducible refine (laws_toStore.calls k _ _ l0_0 a0_1 a0_2 _ _ l0_3 a0_4 t624 t627 t628 t629 t632 _ ?side1 ?side2 ?side3 ?side4 A12.out).mono ?_
    (case side1 => exact cr_ (Kd.C_below HR0_0.out HB.out))
    (case side2 => exact HC0_0.out)
    (case side3 => exact cr_ (Kd.C_below HR0_3.out HB.out))
    (case side4 => exact HC0_3.out)
    rintro e w32 ⟨v625, v630, rfl, ho0, ho1, hb⟩
    refine ⟨_, rfl, ?_⟩
    have n0_ := Aside0.mk (Kd.R_elder' (kr_ HO605.out) (Kd.R_base ho0) hb)
    have n1_ := Aside0.mk (Kd.R_elder' (kr_ HO610.out) (Kd.R_base ho1) hb)
    have n2_ := Aside0.mk (Kd.R_elder' (kr_ HO615.out) (Kd.R_base ho0) hb)
    have n3_ := Aside0.mk (Kd.R_elder' (kr_ HO620.out) (Kd.R_base ho1) hb)
    have n4_ := Aside0.mk (Kd.R_lower (Kd.R_new' (Kd.R_new' ho0 (Kd.R_lt (kr_ HO605.out))) (Kd.R_lt (kr_ HO615.out))) (below_size (bs2_ HB GE601.out GE622.out)))
    have n5_ := Aside0.mk (Kd.R_lower (Kd.R_new' (Kd.R_new' ho1 (Kd.R_lt (kr_ HO610.out))) (Kd.R_lt (kr_ HO620.out))) (below_size (bs2_ HB GE601.out GE622.out)))
    have n6_ := Aside0.mk (blk_below (kb_ BK601.out) hb)
    have n7_ := Aside0.mk (blk_below (kb_ BK622.out) hb)
    have n8_ := Aside0.mk (below_step (bs2_ HB GE601.out GE622.out) hb)
    clear HO605
    clear HO610
    clear HO615
    clear HO620
    clear BK601
    clear BK622
    clear HB
    have HO605 := n0_
    have HO610 := n1_
    have HO615 := n2_
    have HO620 := n3_
    have HO626 := n4_
    have HO631 := n5_
    have BK601 := n6_
    have BK622 := n7_
    have HB := n8_
    clear n0_ n1_ n2_ n3_ n4_ n5_ n6_ n7_ n8_
    (try clear hb)
    (try clear hb2)
    (try clear hk)
    (try clear hi)
    (try clear ho0)
    (try clear ho1)
    obtain ⟨Ao33, co33, eo33⟩ := Kd.R_slice HO626.out
    (first | subst eo33 | (injection eo33 with f1_ f2_ f3_; have f4_ := f1_.symm; have f5_ := f3_.symm; clear f1_ f2_ f3_; subst f4_; subst f5_))
    obtain ⟨Ao34, co34, eo34⟩ := Kd.R_slice HO631.out
    (first | subst eo34 | (injection eo34 with f1_ f2_ f3_; have f4_ := f1_.symm; have f5_ := f3_.symm; clear f1_ f2_ f3_; subst f4_; subst f5_))
    refine hK.out _ _ ⟨(blk_cell BK622.out 0).trans rfl, (blk_cell BK622.out 1).trans rfl, (blk_cell BK622.out 2).trans rfl, (blk_cell BK622.out 3).trans rfl, (blk_cell BK622.out 4).trans rfl, (blk_cell BK601.out 0).trans rfl, (blk_cell BK601.out 1).trans rfl, (blk_cell BK601.out 2).trans rfl, (blk_cell BK601.out 3).trans rfl, (blk_cell BK601.out 4).trans rfl⟩ (fun hHeld => ?_)
    clear hK K
    refine norm_ (a' := ?_) ?_ ?_
    rotate_left
    ·show Act.put _ (some 24) _ = _
     simp only [Act.put, List.setIfInBounds_toArray, List.set_cons_zero, List.set_cons_succ, i64_w, i32_w]
     rfl
    refine one_ (i := 3) (N := some 25) (lz_ 5 15) rfl rfl (by kernel_rfl) (by decide) (fun K hK => ?_)
    refine goes_ Try.func90 (by kernel_rfl) rfl #[.agg #[.slice Ao26 t613.length co26, .int .i64 t616, .string t617, .slice Ao29 t618.length co29, .int .i64 t621], .agg #[.slice Ao33 t624.length co33, .int .i64 t627, .string t628, .slice Ao34 t629.length co34, .int .i64 t632]] (by rfl) rfl rfl (by (try simp only [List.map_toArray, List.map_cons, List.map_nil]); first | done | rfl | (simp only [List.length_drop, List.length_take]; rfl)) ?_
    with_reducible refine (laws_eqStore.calls k _ _ t613 t616 t617 _ _ t618 t621 _ _ t624 t627 t628 _ _ t629 t632 true _ ?side1 ?side2 ?side3 ?side4 ?side5 ?side6 ?side7 ?side8 A13.out).mono ?_
    (case side1 => exact cr_ (Kd.R_reads' HO615.out).2.2)
    (case side2 => exact (Kd.R_reads' HO615.out).2.1)
    (case side3 => exact cr_ (Kd.R_reads' HO620.out).2.2)
    (case side4 => exact (Kd.R_reads' HO620.out).2.1)
    (case side5 => exact cr_ (Kd.R_reads' HO626.out).2.2)
    (case side6 => exact (Kd.R_reads' HO626.out).2.1)
    (case side7 => exact cr_ (Kd.R_reads' HO631.out).2.2)
    (case side8 => exact (Kd.R_reads' HO631.out).2.1)
    rintro e w35 ⟨rfl, hb⟩
    refine ⟨_, rfl, ?_⟩
    have n0_ := Aside0.mk (Kd.R_below (kr_ HO605.out) hb)
    have n1_ := Aside0.mk (Kd.R_below (kr_ HO610.out) hb)
    have n2_ := Aside0.mk (Kd.R_below (kr_ HO615.out) hb)
    have n3_ := Aside0.mk (Kd.R_below (kr_ HO620.out) hb)
    have n4_ := Aside0.mk (Kd.R_below (kr_ HO626.out) hb)
    have n5_ := Aside0.mk (Kd.R_below (kr_ HO631.out) hb)
    have n6_ := Aside0.mk (blk_below (kb_ BK601.out) hb)
    have n7_ := Aside0.mk (blk_below (kb_ BK622.out) hb)
    have n8_ := Aside0.mk (below_step (bs2_ HB GE601.out GE622.out) hb)
    clear HO605
    clear HO610
    clear HO615
    clear HO620
    clear HO626
    clear HO631
    clear BK601
    clear BK622
    clear HB
    have HO605 := n0_
    have HO610 := n1_
    have HO615 := n2_
    have HO620 := n3_
    have HO626 := n4_
    have HO631 := n5_
    have BK601 := n6_
    have BK622 := n7_
    have HB := n8_
    clear n0_ n1_ n2_ n3_ n4_ n5_ n6_ n7_ n8_
    (try clear hb)
    (try clear hb2)
    (try clear hk)
    (try clear hi)
    refine hK.out _ _ ⟨(blk_cell BK622.out 0).trans rfl, (blk_cell BK622.out 1).trans rfl, (blk_cell BK622.out 2).trans rfl, (blk_cell BK622.out 3).trans rfl, (blk_cell BK622.out 4).trans rfl, (blk_cell BK601.out 0).trans rfl, (blk_cell BK601.out 1).trans rfl, (blk_cell BK601.out 2).trans rfl, (blk_cell BK601.out 3).trans rfl, (blk_cell BK601.out 4).trans rfl⟩ (fun hHeld => ?_)
    clear hK K
    refine norm_ (a' := ?_) ?_ ?_
    rotate_left
    ·show Act.put _ (some 25) _ = _
     simp only [Act.put, List.setIfInBounds_toArray, List.set_cons_zero, List.set_cons_succ, i64_w, i32_w]
     rfl
    refine pk_ 4 26 31 ?_
    refine done_ (by kernel_rfl) ?_
    try go_wp2
    go_ret
    exact ⟨e2_, by repeat (first | (with_reducible first | exact HB.out | apply below_alloc | apply pw_below_drewN | apply below_drew1 | refine below_set ?_ GE601.out | refine below_set ?_ GE622.out) | exact HB.out)⟩
   ·replace c14 := Bool.eq_false_iff.mpr c14
    subst c14
    rw [if_neg nf_] at H
    exact absurd H (by simp)
end Go.Proofs.Ytcogimnpffnanaa.Q
end
section
/- The row of the law FnExactStoreOk out of its pure statement and the printed walk. -/
namespace Go.Proofs.Ytcogimnpffnanaa.Q
open Go.RowKit Go.Proofs.Ytcogimnpffnanaa.XO Go.Proofs.YtcogimnpffnanaaW.PrintWords Go.ChangeShapes Go.WideShapes Go.ChangeAt
set_option linter.unusedVariables false
set_option linter.unusedSimpArgs false
def laws_FnExactStoreOk.Pure : Prop := ∀ (x0 : S111), G111 x0 → ∃ k, laws_FnExactStoreOk.f k x0.f0.f0 x0.f0.f1.f0 x0.f0.f1.f1 x0.f1 x0.f2 = some true
namespace RFnExactStoreOk
theorem own : ownKnob Try.prog.godebug = none := by kernel_rfl
theorem laidOut : laidOutB Try.prog = true := by kernel_rfl
set_option maxRecDepth 100000 in
theorem lifted (PU : laws_FnExactStoreOk.Pure) (os : Os) (started : os.Started) (H : Type) (enc : TypeId × Value → H) :
  ReturnsInHanded {} Try.checked os 14 .any (Rows.fnExactStoreOkSpec.pre6 enc Try.prog Try.f14 Rows.fnExactStoreOkRow.domain false) (Rows.fnExactStoreOkSpec.post enc Try.prog Try.f14 false true false false) := by
 refine returnsInHanded_of_change_sized (C := Try.checked) own started (by kernel_rfl) Try.func14
  (ChangeSpec.witness6 (enc := enc) (C := Try.checked) false ⟨#[], #[.agg #[.slice none 0 0, .int .i64 0, .string ByteArray.empty, .slice none 0 0, .int .i64 0]], []⟩ 8 (by kernel_rfl) (by kernel_rfl) (by kernel_rfl) (by kernel_rfl)) ?_
 intro W base args ds gs before hval0 hW hcnd hsz0 _
 have hval : ∀ (j : Nat) t v, Try.f14.params[j]? = some t → args[j]? = some v → Value.okWide Try.prog W .any base t v := hval0
 have hW' := hW
 obtain ⟨p, q, hA0, hV, rfl, hfz, hnd⟩ := hW
 have hA : DataW.TrodAll enc Try.prog W 0 (fun _ => true) true Try.f14.params.toList args.toList ds p := hA0
 rw [Try.params14] at hA hval
 obtain ⟨v0, vs0, d0, ds0, p0, q0, hargs, rfl, rfl, h0, r0⟩ := trodAll_cons hA
 obtain ⟨rfl, rfl, rfl⟩ := trodAll_nil r0
 obtain rfl : args = #[v0] := by cases args; simp_all
 obtain ⟨rfl, rfl⟩ := trodVars_none hV
 have kk0 := h0
 have lt0 : ∀ x ∈ p0, x.block < W.heap.size := by obtain ⟨m, hm⟩ := kk0; exact DataW.trod_lt m _ _ _ hm
 obtain ⟨cs0, rfl, _⟩ := okWide_struct Try.underlying111 (hval 0 111 v0 rfl rfl)
 obtain ⟨fu0, hf0⟩ := h0
 obtain ⟨x0, hK0, g0⟩ := opens111 hf0
 obtain ⟨A0_0, c0_0, A0_3, c0_3, he0, hc0_0, hr0_0, hc0_3, hr0_3⟩ := k111_open hK0
 obtain rfl : cs0 = #[.slice A0_0 x0.f0.f0.length c0_0, .int .i64 x0.f0.f1.f0, .string x0.f0.f1.f1, .slice A0_3 x0.f1.length c0_3, .int .i64 x0.f2] := by cases cs0; simpa [Value.cells] using he0
 clear hA0 hval0 hsz0
 obtain ⟨k, hp⟩ := PU x0 g0
 refine (laws_FnExactStoreOk.calls k _ _ x0.f0.f0 x0.f0.f1.f0 x0.f0.f1.f1 _ _ x0.f1 x0.f2 true W hr0_0 hc0_0 hr0_3 hc0_3 hp).mono fun e W' ⟨he, bel0⟩ => ?_
 have bel : Below W.heap.size W W' := bel0
 subst he
 exact ⟨_, rfl, _, _, _, [], _, [], hW', trodAll_mk1 (shut_bool Try.underlying4 _), (trodAll_cons_mk (Below.trod laidOut (by kernel_rfl) (of_decide_eq_true (by kernel_rfl)) kk0 bel lt0) trodAll_mk0), rfl, bel.frame _, fun h => by cases h⟩
theorem over (PU : laws_FnExactStoreOk.Pure) : Rows.fnExactStoreOkRow.holds Try.pinned (OpenSpec.ofChange Rows.fnExactStoreOkSpec) :=
 OpenClaim.holds_of_wide 14 Try.f14 rfl rfl rfl rfl rfl rfl rfl ⟨rfl, rfl, rfl, rfl, rfl⟩ rfl rfl rfl rfl rfl (by kernel_rfl) Try.func14 (by kernel_rfl)
  (of_decide_eq_true (by kernel_rfl)) (by unfold Func.isWrapper; first | (rw [if_pos (by decide +kernel)]; kernel_rfl) | (rw [if_neg (by decide +kernel)]; exact ⟨rfl, rfl⟩))
  (fun os started H enc _ => lifted PU os started H enc)
end RFnExactStoreOk
theorem FnExactStoreOk_row (PU : laws_FnExactStoreOk.Pure) : Rows.FnExactStoreOkSaid := RFnExactStoreOk.over PU
end Go.Proofs.Ytcogimnpffnanaa.Q
end
section
/- The program's StoreOk and the reference's return the same for every store; no condition. -/
namespace Go.Proofs.Ytcogimnpffnanaa.Q
open Go.RowKit Go.Proofs.Ytcogimnpffnanaa.B Go.Proofs.YtcogimnpffnanaaW.PrintWords
set_option linter.unusedVariables false
theorem pure_FnExactStoreOk : laws_FnExactStoreOk.Pure := by
 intro x g
 refine Ev.rounds (g := fun k => laws_FnExactStoreOk.f k x.f0.f0 x.f0.f1.f0 x.f0.f1.f1 x.f1 x.f2) ?_
 obtain ⟨⟨⟨g1, g2⟩, g3, g4⟩, g5, g6⟩ := g
 generalize x.f0.f0 = l at *
 generalize x.f0.f1.f0 = n at *
 generalize x.f0.f1.f1 = s at *
 generalize x.f1 = b at *
 generalize x.f2 = u at *
 have hb : InB b := int_bytes g5.2
 unfold laws_FnExactStoreOk.f
 obtain ⟨r, hr, hc⟩ := szStore_ev l n s b u 1048576 (by omega) (by omega) g1 g2 g4 g5.1
 refine Ev.bind hr ?_
 rcases hc with hc | ⟨hc, hc1⟩
 ·exact Ev.pos hc (Ev.now _)
 ·have ht := total_nonneg l
  have hT := toStore_ev l n s b u (by omega) (by omega)
  have hs := total_small (l := l) (by omega)
  have hE := eqStore_ev l n s b u (by omega) (by omega)
  refine Ev.neg (by omega) (Ev.bind hT ?_)
  obtain ⟨q, q1, q2⟩ := storeOk_both l n s b u hb (by omega) hs
  refine Ev.bind q1 (Ev.bind hT (Ev.bind q2 (Ev.neg (by simp) ?_)))
  exact Ev.bind hT (Ev.bind hE (Ev.pos rfl (Ev.now _)))
end Go.Proofs.Ytcogimnpffnanaa.Q
namespace Go.Proofs.Ytcogimnpffnanaa
theorem fnExactStoreOk_holds : Rows.FnExactStoreOkSaid := Q.FnExactStoreOk_row Q.pure_FnExactStoreOk
end Go.Proofs.Ytcogimnpffnanaa
end
