-- Joined and shortened by a program of this session (wip/tools/shakecopy.py): the words of the print, texts of pp.sh and of mine.
import Derived.Test.YtnlndmoecljicaaGreatKFnExactAskFor5
section
namespace Go.Proofs.YtnlndmoecljicaaGreat.Q
open Go.RowKit Go.Proofs.YtnlndmoecljicaaGreatW.PrintWords Go.Proofs.YtnlndmoecljicaaGreatW.PrintLast Go.Proofs.YtnlndmoecljicaaGreatW.PrintMore
set_option linter.unusedVariables false
set_option linter.unusedSimpArgs false
def impl_getter_texts.f (k : Nat) (s : List Int) (a : Int) (b : Bool) : Option (List ByteArray × Int × Bool) := (impl_GetTexts.f k s a).bind fun x => (if b = true then (some (([] : List ByteArray), a, true)) else (if x.2.2 = true then (some (x.1, x.2.1, b)) else (some (([] : List ByteArray), a, true))))
set_option maxHeartbeats 8000000 in
set_option maxRecDepth 100000 in
theorem impl_getter_texts.calls (k : Nat) (g : Nat) (s0_0 : List Int) (s0_1 : Int) (s0_2 : Bool) (r1 : List ByteArray) (r2 : Int) (r3 : Bool) (w0 w : World) (hI : IsS116 w0 w g s0_0 s0_1 s0_2) (hB : Below w0.heap.size w0 w) (h : impl_getter_texts.f k s0_0 s0_1 s0_2 = some (r1, r2, r3)) :
  Calls Tryz.prog 100 #[.pointer (some ⟨g, 0, none⟩)] w fun e w' => ∃ v0_ : Value, e = .returned (v0_) ∧ Kd.R Kd.string 9 w' w.heap.size (fun _ => True) v0_ r1 ∧ IsS116 w0 w' g s0_0 r2 r3 ∧ Below w0.heap.size w0 w' ∧ KeepBut w w' g none := by
 unfold impl_getter_texts.f at h
 obtain ⟨⟨t1, t2, t3⟩, A2, h⟩ := Option.bind_eq_some_iff.mp h
 obtain ⟨A, c, HG, hg, HS, HSQ⟩ := hI
 have HI := Aside0.mk (show IsS116 w0 w g s0_0 s0_1 s0_2 from ⟨A, c, HG, hg, HS, HSQ⟩)
 have HA := Aside0.mk A2
 have HC := Aside0.mk (Kd.C_below HS hB)
 have HQ := Aside0.mk HSQ
 have HB := Aside0.mk hB
 have HSZ := Aside0.mk hB.size
 have hcz_0 : w.cell? ⟨g, 0, none⟩ = some (.slice A s0_0.length c) := (blk_cell HG 0).trans rfl
 have hcz_1 : w.cell? ⟨g, 1, none⟩ = some (.int .i64 s0_1) := (blk_cell HG 1).trans rfl
 have H := Aside0.mk h
 clear A2 HG hg HS HSQ hB h
 cases s0_2 with
 | true =>
  have h := H.out
  rw [if_pos rfl] at h
  simp only [Option.some.injEq, Prod.mk.injEq] at h
  obtain ⟨rfl, rfl, rfl⟩ := h
  clear H
  go_enter Tryz.func100, Tryz.ntmps100
  go_wp2
  refine start_ (n := 16) (S := fun w' => w'.cell? ⟨g, 0, none⟩ = some (.slice A s0_0.length c) ∧ w'.cell? ⟨g, 1, none⟩ = some (.int .i64 s0_1)) (ds := [8]) #[false, false, false, false, false, false, false, false, false, false, false, false, false, false, false, false] (by kernel_rfl) rfl rfl ⟨hcz_0, hcz_1⟩ (fun hHeld => ?_)
  refine pure_ (i := 0) (N := some 7) (v := ?_) (a' := ?_) #[true, false, false, false, false, false, false, false, false, false, false, false, false, false, false, false] rfl rfl (by kernel_rfl) (fun _ _ _ h => h) (Or.inl ⟨by rfl, ?_⟩) ?_ ?_
  rotate_left
  ·intro w'
   go_simp
   with_reducible rfl
  rotate_left
  ·simp only [Act.put, List.setIfInBounds_toArray, List.set_cons_zero, List.set_cons_succ, i64_w, i32_w]
   rfl
  refine pure_ (i := 1) (N := some 8) (v := ?_) (a' := ?_) #[true, true, false, false, false, false, false, false, false, false, false, false, false, false, false, false] rfl rfl (by kernel_rfl) (fun _ _ _ h => h) (Or.inl ⟨by rfl, ?_⟩) ?_ ?_
  rotate_left
  ·intro w'
   go_simp
   with_reducible rfl
  rotate_left
  ·simp only [Act.put, List.setIfInBounds_toArray, List.set_cons_zero, List.set_cons_succ, i64_w, i32_w]
   rfl
  refine pure_ (i := 2) (N := some 9) (v := ?_) (a' := ?_) #[true, true, true, false, false, false, false, false, false, false, false, false, false, false, false, false] rfl rfl (by kernel_rfl) (fun _ _ _ h => h) (Or.inl ⟨by rfl, ?_⟩) ?_ ?_
  rotate_left
  ·intro w'
   go_simp
   with_reducible rfl
  rotate_left
  ·simp only [Act.put, List.setIfInBounds_toArray, List.set_cons_zero, List.set_cons_succ, i64_w, i32_w]
   rfl
  refine pure_ (i := 4) (N := some 11) (v := ?_) (a' := ?_) #[true, true, true, false, true, false, false, false, false, false, false, false, false, false, false, false] rfl rfl (by kernel_rfl) (fun _ _ _ h => h) (Or.inl ⟨by rfl, ?_⟩) ?_ ?_
  rotate_left
  ·intro w'
   go_simp
   with_reducible rfl
  rotate_left
  ·simp only [Act.put, List.setIfInBounds_toArray, List.set_cons_zero, List.set_cons_succ, i64_w, i32_w]
   rfl
  refine pure_ (i := 5) (N := some 12) (v := ?_) (a' := ?_) #[true, true, true, false, true, true, false, false, false, false, false, false, false, false, false, false] rfl rfl (by kernel_rfl) (fun _ _ _ h => h) (Or.inl ⟨by rfl, ?_⟩) ?_ ?_
  rotate_left
  ·intro w'
   go_simp
   with_reducible rfl
  rotate_left
  ·simp only [Act.put, List.setIfInBounds_toArray, List.set_cons_zero, List.set_cons_succ, i64_w, i32_w]
   rfl
  refine pure_ (i := 6) (N := some 13) (v := ?_) (a' := ?_) #[true, true, true, false, true, true, true, false, false, false, false, false, false, false, false, false] rfl rfl (by kernel_rfl) (fun _ _ _ h => h) (Or.inl ⟨by rfl, ?_⟩) ?_ ?_
  rotate_left
  ·intro w'
   go_simp
   with_reducible rfl
  rotate_left
  ·simp only [Act.put, List.setIfInBounds_toArray, List.set_cons_zero, List.set_cons_succ, i64_w, i32_w]
   rfl
  refine take_ (i := 3) (N := some 10) (v := ?_) (a' := ?_) #[true, true, true, true, true, true, true, false, false, false, false, false, false, false, false, false] rfl rfl (by kernel_rfl) (fun _ _ _ h => h) (Or.inl ⟨by rfl, ?_⟩) hHeld ?_ ?_
  rotate_left
  ·rintro w' ⟨s0, s1⟩
   go_simp
   with_reducible rfl
  rotate_left
  ·simp only [Act.put, List.setIfInBounds_toArray, List.set_cons_zero, List.set_cons_succ, i64_w, i32_w]
   rfl
  refine take_ (i := 7) (N := some 14) (v := ?_) (a' := ?_) #[true, true, true, true, true, true, true, true, false, false, false, false, false, false, false, false] rfl rfl (by kernel_rfl) (fun _ _ _ h => h) (Or.inl ⟨by rfl, ?_⟩) hHeld ?_ ?_
  rotate_left
  ·rintro w' ⟨s0, s1⟩
   go_simp
   with_reducible rfl
  rotate_left
  ·simp only [Act.put, List.setIfInBounds_toArray, List.set_cons_zero, List.set_cons_succ, i64_w, i32_w]
   rfl
  refine last_ (i := 8) (N := some 15) #[true, true, true, true, true, true, true, true, true, false, false, false, false, false, false, false] rfl rfl (by kernel_rfl) (by decide) (fun K hK => ?_)
  refine goes_ Tryz.func131 (by kernel_rfl) rfl #[.slice A s0_0.length c, .int .i64 s0_1] (by rfl) rfl rfl (by simp only [List.map_toArray, List.map_cons, List.map_nil]; rfl) ?_
  with_reducible refine (impl_GetTexts.calls k A c s0_0 s0_1 _ _ _ w.drew (Kd.C_drew HC.out) HQ.out HA.out).mono ?_
  rintro e w3 ⟨v, rfl, ho, hb⟩
  refine ⟨_, rfl, ?_⟩
  refine hK.out _ _ ?_
  clear hK K
  refine norm_ (a' := ?_) ?_ ?_
  rotate_left
  ·show Act.put _ (some 15) _ = _
   simp only [Act.put, List.setIfInBounds_toArray, List.set_cons_zero, List.set_cons_succ, i64_w, i32_w]
   rfl
  refine pure_ (i := 9) (N := some 6) (v := ?_) (a' := ?_) #[true, true, true, true, true, true, true, true, true, true, false, false, false, false, false, false] rfl rfl (by kernel_rfl) (fun _ _ _ h => h) (Or.inl ⟨by rfl, ?_⟩) ?_ ?_
  rotate_left
  ·intro w'
   go_simp
   with_reducible rfl
  rotate_left
  ·simp only [Act.put, List.setIfInBounds_toArray, List.set_cons_zero, List.set_cons_succ, i64_w, i32_w]
   rfl
  refine pure_ (i := 10) (N := some 16) (v := ?_) (a' := ?_) #[true, true, true, true, true, true, true, true, true, true, true, false, false, false, false, false] rfl rfl (by kernel_rfl) (fun _ _ _ h => h) (Or.inl ⟨by rfl, ?_⟩) ?_ ?_
  rotate_left
  ·intro w'
   go_simp
   with_reducible rfl
  rotate_left
  ·simp only [Act.put, List.setIfInBounds_toArray, List.set_cons_zero, List.set_cons_succ, i64_w, i32_w]
   rfl
  refine pure_ (i := 11) (N := some 17) (v := ?_) (a' := ?_) #[true, true, true, true, true, true, true, true, true, true, true, true, false, false, false, false] rfl rfl (by kernel_rfl) (fun _ _ _ h => h) (Or.inl ⟨by rfl, ?_⟩) ?_ ?_
  rotate_left
  ·intro w'
   go_simp
   with_reducible rfl
  rotate_left
  ·simp only [Act.put, List.setIfInBounds_toArray, List.set_cons_zero, List.set_cons_succ, i64_w, i32_w]
   rfl
  refine pure_ (i := 12) (N := some 18) (v := ?_) (a' := ?_) #[true, true, true, true, true, true, true, true, true, true, true, true, true, false, false, false] rfl rfl (by kernel_rfl) (fun _ _ _ h => h) (Or.inl ⟨by rfl, ?_⟩) ?_ ?_
  rotate_left
  ·intro w'
   go_simp
   with_reducible rfl
  rotate_left
  ·simp only [Act.put, List.setIfInBounds_toArray, List.set_cons_zero, List.set_cons_succ, i64_w, i32_w]
   rfl
  refine pure_ (i := 13) (N := some 3) (v := ?_) (a' := ?_) #[true, true, true, true, true, true, true, true, true, true, true, true, true, true, false, false] rfl rfl (by kernel_rfl) (fun _ _ _ h => h) (Or.inl ⟨by rfl, ?_⟩) ?_ ?_
  rotate_left
  ·intro w'
   go_simp
   with_reducible rfl
  rotate_left
  ·simp only [Act.put, List.setIfInBounds_toArray, List.set_cons_zero, List.set_cons_succ, i64_w, i32_w]
   rfl
  refine pure_ (i := 14) (N := some 4) (v := ?_) (a' := ?_) #[true, true, true, true, true, true, true, true, true, true, true, true, true, true, true, false] rfl rfl (by kernel_rfl) (fun _ _ _ h => h) (Or.inl ⟨by rfl, ?_⟩) ?_ ?_
  rotate_left
  ·intro w'
   go_simp
   with_reducible rfl
  rotate_left
  ·simp only [Act.put, List.setIfInBounds_toArray, List.set_cons_zero, List.set_cons_succ, i64_w, i32_w]
   rfl
  refine pure_ (i := 15) (N := some 5) (v := ?_) (a' := ?_) #[true, true, true, true, true, true, true, true, true, true, true, true, true, true, true, true] rfl rfl (by kernel_rfl) (fun _ _ _ h => h) (Or.inl ⟨by rfl, ?_⟩) ?_ ?_
  rotate_left
  ·intro w'
   go_simp
   with_reducible rfl
  rotate_left
  ·simp only [Act.put, List.setIfInBounds_toArray, List.set_cons_zero, List.set_cons_succ, i64_w, i32_w]
   rfl
  refine done_ (by kernel_rfl) ?_
  have HI3 := Aside0.mk (IsS116.below (IsS116.drew HI.out) hb)
  have HB3 := Aside0.mk (below_step (below_drew1 HB.out) hb)
  have HK3 := Aside0.mk (show KeepBut w w3 g none from KeepBut.of_below hb g none)
  have HO := Aside0.mk (show Kd.R Kd.string 9 w3 w.heap.size (fun _ => True) v t1 from ho)
  obtain ⟨A4, c4, HG, hg, HS, HSQ⟩ := HI3.out
  have hcy_1 := cellS116_1 HG
  have hcy_2 := cellS116_2 HG
  have hfy_1 := blk_frozen HG 1
  have hfy_2 := blk_frozen HG 2
  have HG3 := Aside0.mk HG
  clear HG hg HS HSQ ho hb hHeld hcz_0 hcz_1
  go_wp2
  go_ret
  refine ⟨_, rfl, Kd.R_nil _ _ _ _ _, IsS116.set_2 HI3.out true, below_set HB3.out (IsS116.ge HI3.out), KeepBut.set_ HK3.out _ _⟩
 | false =>
  have h := H.out
  rw [if_neg (by decide)] at h
  clear H
  cases t3 with
  | true =>
   rw [if_pos rfl] at h
   simp only [Option.some.injEq, Prod.mk.injEq] at h
   obtain ⟨rfl, rfl, rfl⟩ := h
   go_enter Tryz.func100, Tryz.ntmps100
   go_wp2
   refine start_ (n := 16) (S := fun w' => w'.cell? ⟨g, 0, none⟩ = some (.slice A s0_0.length c) ∧ w'.cell? ⟨g, 1, none⟩ = some (.int .i64 s0_1)) (ds := [8]) #[false, false, false, false, false, false, false, false, false, false, false, false, false, false, false, false] (by kernel_rfl) rfl rfl ⟨hcz_0, hcz_1⟩ (fun hHeld => ?_)
   refine pure_ (i := 0) (N := some 7) (v := ?_) (a' := ?_) #[true, false, false, false, false, false, false, false, false, false, false, false, false, false, false, false] rfl rfl (by kernel_rfl) (fun _ _ _ h => h) (Or.inl ⟨by rfl, ?_⟩) ?_ ?_
   rotate_left
   ·intro w'
    go_simp
    with_reducible rfl
   rotate_left
   ·simp only [Act.put, List.setIfInBounds_toArray, List.set_cons_zero, List.set_cons_succ, i64_w, i32_w]
    rfl
   refine pure_ (i := 1) (N := some 8) (v := ?_) (a' := ?_) #[true, true, false, false, false, false, false, false, false, false, false, false, false, false, false, false] rfl rfl (by kernel_rfl) (fun _ _ _ h => h) (Or.inl ⟨by rfl, ?_⟩) ?_ ?_
   rotate_left
   ·intro w'
    go_simp
    with_reducible rfl
   rotate_left
   ·simp only [Act.put, List.setIfInBounds_toArray, List.set_cons_zero, List.set_cons_succ, i64_w, i32_w]
    rfl
   refine pure_ (i := 2) (N := some 9) (v := ?_) (a' := ?_) #[true, true, true, false, false, false, false, false, false, false, false, false, false, false, false, false] rfl rfl (by kernel_rfl) (fun _ _ _ h => h) (Or.inl ⟨by rfl, ?_⟩) ?_ ?_
   rotate_left
   ·intro w'
    go_simp
    with_reducible rfl
   rotate_left
   ·simp only [Act.put, List.setIfInBounds_toArray, List.set_cons_zero, List.set_cons_succ, i64_w, i32_w]
    rfl
   refine pure_ (i := 4) (N := some 11) (v := ?_) (a' := ?_) #[true, true, true, false, true, false, false, false, false, false, false, false, false, false, false, false] rfl rfl (by kernel_rfl) (fun _ _ _ h => h) (Or.inl ⟨by rfl, ?_⟩) ?_ ?_
   rotate_left
   ·intro w'
    go_simp
    with_reducible rfl
   rotate_left
   ·simp only [Act.put, List.setIfInBounds_toArray, List.set_cons_zero, List.set_cons_succ, i64_w, i32_w]
    rfl
   refine pure_ (i := 5) (N := some 12) (v := ?_) (a' := ?_) #[true, true, true, false, true, true, false, false, false, false, false, false, false, false, false, false] rfl rfl (by kernel_rfl) (fun _ _ _ h => h) (Or.inl ⟨by rfl, ?_⟩) ?_ ?_
   rotate_left
   ·intro w'
    go_simp
    with_reducible rfl
   rotate_left
   ·simp only [Act.put, List.setIfInBounds_toArray, List.set_cons_zero, List.set_cons_succ, i64_w, i32_w]
    rfl
   refine pure_ (i := 6) (N := some 13) (v := ?_) (a' := ?_) #[true, true, true, false, true, true, true, false, false, false, false, false, false, false, false, false] rfl rfl (by kernel_rfl) (fun _ _ _ h => h) (Or.inl ⟨by rfl, ?_⟩) ?_ ?_
   rotate_left
   ·intro w'
    go_simp
    with_reducible rfl
   rotate_left
   ·simp only [Act.put, List.setIfInBounds_toArray, List.set_cons_zero, List.set_cons_succ, i64_w, i32_w]
    rfl
   refine take_ (i := 3) (N := some 10) (v := ?_) (a' := ?_) #[true, true, true, true, true, true, true, false, false, false, false, false, false, false, false, false] rfl rfl (by kernel_rfl) (fun _ _ _ h => h) (Or.inl ⟨by rfl, ?_⟩) hHeld ?_ ?_
   rotate_left
   ·rintro w' ⟨s0, s1⟩
    go_simp
    with_reducible rfl
   rotate_left
   ·simp only [Act.put, List.setIfInBounds_toArray, List.set_cons_zero, List.set_cons_succ, i64_w, i32_w]
    rfl
   refine take_ (i := 7) (N := some 14) (v := ?_) (a' := ?_) #[true, true, true, true, true, true, true, true, false, false, false, false, false, false, false, false] rfl rfl (by kernel_rfl) (fun _ _ _ h => h) (Or.inl ⟨by rfl, ?_⟩) hHeld ?_ ?_
   rotate_left
   ·rintro w' ⟨s0, s1⟩
    go_simp
    with_reducible rfl
   rotate_left
   ·simp only [Act.put, List.setIfInBounds_toArray, List.set_cons_zero, List.set_cons_succ, i64_w, i32_w]
    rfl
   refine last_ (i := 8) (N := some 15) #[true, true, true, true, true, true, true, true, true, false, false, false, false, false, false, false] rfl rfl (by kernel_rfl) (by decide) (fun K hK => ?_)
   refine goes_ Tryz.func131 (by kernel_rfl) rfl #[.slice A s0_0.length c, .int .i64 s0_1] (by rfl) rfl rfl (by simp only [List.map_toArray, List.map_cons, List.map_nil]; rfl) ?_
   with_reducible refine (impl_GetTexts.calls k A c s0_0 s0_1 _ _ _ w.drew (Kd.C_drew HC.out) HQ.out HA.out).mono ?_
   rintro e w3 ⟨v, rfl, ho, hb⟩
   refine ⟨_, rfl, ?_⟩
   refine hK.out _ _ ?_
   clear hK K
   refine norm_ (a' := ?_) ?_ ?_
   rotate_left
   ·show Act.put _ (some 15) _ = _
    simp only [Act.put, List.setIfInBounds_toArray, List.set_cons_zero, List.set_cons_succ, i64_w, i32_w]
    rfl
   refine pure_ (i := 9) (N := some 6) (v := ?_) (a' := ?_) #[true, true, true, true, true, true, true, true, true, true, false, false, false, false, false, false] rfl rfl (by kernel_rfl) (fun _ _ _ h => h) (Or.inl ⟨by rfl, ?_⟩) ?_ ?_
   rotate_left
   ·intro w'
    go_simp
    with_reducible rfl
   rotate_left
   ·simp only [Act.put, List.setIfInBounds_toArray, List.set_cons_zero, List.set_cons_succ, i64_w, i32_w]
    rfl
   refine pure_ (i := 10) (N := some 16) (v := ?_) (a' := ?_) #[true, true, true, true, true, true, true, true, true, true, true, false, false, false, false, false] rfl rfl (by kernel_rfl) (fun _ _ _ h => h) (Or.inl ⟨by rfl, ?_⟩) ?_ ?_
   rotate_left
   ·intro w'
    go_simp
    with_reducible rfl
   rotate_left
   ·simp only [Act.put, List.setIfInBounds_toArray, List.set_cons_zero, List.set_cons_succ, i64_w, i32_w]
    rfl
   refine pure_ (i := 11) (N := some 17) (v := ?_) (a' := ?_) #[true, true, true, true, true, true, true, true, true, true, true, true, false, false, false, false] rfl rfl (by kernel_rfl) (fun _ _ _ h => h) (Or.inl ⟨by rfl, ?_⟩) ?_ ?_
   rotate_left
   ·intro w'
    go_simp
    with_reducible rfl
   rotate_left
   ·simp only [Act.put, List.setIfInBounds_toArray, List.set_cons_zero, List.set_cons_succ, i64_w, i32_w]
    rfl
   refine pure_ (i := 12) (N := some 18) (v := ?_) (a' := ?_) #[true, true, true, true, true, true, true, true, true, true, true, true, true, false, false, false] rfl rfl (by kernel_rfl) (fun _ _ _ h => h) (Or.inl ⟨by rfl, ?_⟩) ?_ ?_
   rotate_left
   ·intro w'
    go_simp
    with_reducible rfl
   rotate_left
   ·simp only [Act.put, List.setIfInBounds_toArray, List.set_cons_zero, List.set_cons_succ, i64_w, i32_w]
    rfl
   refine pure_ (i := 13) (N := some 3) (v := ?_) (a' := ?_) #[true, true, true, true, true, true, true, true, true, true, true, true, true, true, false, false] rfl rfl (by kernel_rfl) (fun _ _ _ h => h) (Or.inl ⟨by rfl, ?_⟩) ?_ ?_
   rotate_left
   ·intro w'
    go_simp
    with_reducible rfl
   rotate_left
   ·simp only [Act.put, List.setIfInBounds_toArray, List.set_cons_zero, List.set_cons_succ, i64_w, i32_w]
    rfl
   refine pure_ (i := 14) (N := some 4) (v := ?_) (a' := ?_) #[true, true, true, true, true, true, true, true, true, true, true, true, true, true, true, false] rfl rfl (by kernel_rfl) (fun _ _ _ h => h) (Or.inl ⟨by rfl, ?_⟩) ?_ ?_
   rotate_left
   ·intro w'
    go_simp
    with_reducible rfl
   rotate_left
   ·simp only [Act.put, List.setIfInBounds_toArray, List.set_cons_zero, List.set_cons_succ, i64_w, i32_w]
    rfl
   refine pure_ (i := 15) (N := some 5) (v := ?_) (a' := ?_) #[true, true, true, true, true, true, true, true, true, true, true, true, true, true, true, true] rfl rfl (by kernel_rfl) (fun _ _ _ h => h) (Or.inl ⟨by rfl, ?_⟩) ?_ ?_
   rotate_left
   ·intro w'
    go_simp
    with_reducible rfl
   rotate_left
   ·simp only [Act.put, List.setIfInBounds_toArray, List.set_cons_zero, List.set_cons_succ, i64_w, i32_w]
    rfl
   refine done_ (by kernel_rfl) ?_
   have HI3 := Aside0.mk (IsS116.below (IsS116.drew HI.out) hb)
   have HB3 := Aside0.mk (below_step (below_drew1 HB.out) hb)
   have HK3 := Aside0.mk (show KeepBut w w3 g none from KeepBut.of_below hb g none)
   have HO := Aside0.mk (show Kd.R Kd.string 9 w3 w.heap.size (fun _ => True) v t1 from ho)
   obtain ⟨A4, c4, HG, hg, HS, HSQ⟩ := HI3.out
   have hcy_1 := cellS116_1 HG
   have hcy_2 := cellS116_2 HG
   have hfy_1 := blk_frozen HG 1
   have hfy_2 := blk_frozen HG 2
   have HG3 := Aside0.mk HG
   clear HG hg HS HSQ ho hb hHeld hcz_0 hcz_1
   go_wp2
   go_ret
   refine ⟨_, rfl, Kd.R_mono (Kd.R_far (p := ⟨g, 1, none⟩) (Kd.R_types HO.out HG3.out (by decide)) (fun _ hk => hk.2) _) (fun _ h => trivial), IsS116.set_1 HI3.out t2, below_set HB3.out (IsS116.ge HI3.out), KeepBut.set_ HK3.out _ _⟩
  | false =>
   rw [if_neg (by simp)] at h
   simp only [Option.some.injEq, Prod.mk.injEq] at h
   obtain ⟨rfl, rfl, rfl⟩ := h
   go_enter Tryz.func100, Tryz.ntmps100
   go_wp2
   refine start_ (n := 16) (S := fun w' => w'.cell? ⟨g, 0, none⟩ = some (.slice A s0_0.length c) ∧ w'.cell? ⟨g, 1, none⟩ = some (.int .i64 s0_1)) (ds := [8]) #[false, false, false, false, false, false, false, false, false, false, false, false, false, false, false, false] (by kernel_rfl) rfl rfl ⟨hcz_0, hcz_1⟩ (fun hHeld => ?_)
   refine pure_ (i := 0) (N := some 7) (v := ?_) (a' := ?_) #[true, false, false, false, false, false, false, false, false, false, false, false, false, false, false, false] rfl rfl (by kernel_rfl) (fun _ _ _ h => h) (Or.inl ⟨by rfl, ?_⟩) ?_ ?_
   rotate_left
   ·intro w'
    go_simp
    with_reducible rfl
   rotate_left
   ·simp only [Act.put, List.setIfInBounds_toArray, List.set_cons_zero, List.set_cons_succ, i64_w, i32_w]
    rfl
   refine pure_ (i := 1) (N := some 8) (v := ?_) (a' := ?_) #[true, true, false, false, false, false, false, false, false, false, false, false, false, false, false, false] rfl rfl (by kernel_rfl) (fun _ _ _ h => h) (Or.inl ⟨by rfl, ?_⟩) ?_ ?_
   rotate_left
   ·intro w'
    go_simp
    with_reducible rfl
   rotate_left
   ·simp only [Act.put, List.setIfInBounds_toArray, List.set_cons_zero, List.set_cons_succ, i64_w, i32_w]
    rfl
   refine pure_ (i := 2) (N := some 9) (v := ?_) (a' := ?_) #[true, true, true, false, false, false, false, false, false, false, false, false, false, false, false, false] rfl rfl (by kernel_rfl) (fun _ _ _ h => h) (Or.inl ⟨by rfl, ?_⟩) ?_ ?_
   rotate_left
   ·intro w'
    go_simp
    with_reducible rfl
   rotate_left
   ·simp only [Act.put, List.setIfInBounds_toArray, List.set_cons_zero, List.set_cons_succ, i64_w, i32_w]
    rfl
   refine pure_ (i := 4) (N := some 11) (v := ?_) (a' := ?_) #[true, true, true, false, true, false, false, false, false, false, false, false, false, false, false, false] rfl rfl (by kernel_rfl) (fun _ _ _ h => h) (Or.inl ⟨by rfl, ?_⟩) ?_ ?_
   rotate_left
   ·intro w'
    go_simp
    with_reducible rfl
   rotate_left
   ·simp only [Act.put, List.setIfInBounds_toArray, List.set_cons_zero, List.set_cons_succ, i64_w, i32_w]
    rfl
   refine pure_ (i := 5) (N := some 12) (v := ?_) (a' := ?_) #[true, true, true, false, true, true, false, false, false, false, false, false, false, false, false, false] rfl rfl (by kernel_rfl) (fun _ _ _ h => h) (Or.inl ⟨by rfl, ?_⟩) ?_ ?_
   rotate_left
   ·intro w'
    go_simp
    with_reducible rfl
   rotate_left
   ·simp only [Act.put, List.setIfInBounds_toArray, List.set_cons_zero, List.set_cons_succ, i64_w, i32_w]
    rfl
   refine pure_ (i := 6) (N := some 13) (v := ?_) (a' := ?_) #[true, true, true, false, true, true, true, false, false, false, false, false, false, false, false, false] rfl rfl (by kernel_rfl) (fun _ _ _ h => h) (Or.inl ⟨by rfl, ?_⟩) ?_ ?_
   rotate_left
   ·intro w'
    go_simp
    with_reducible rfl
   rotate_left
   ·simp only [Act.put, List.setIfInBounds_toArray, List.set_cons_zero, List.set_cons_succ, i64_w, i32_w]
    rfl
   refine take_ (i := 3) (N := some 10) (v := ?_) (a' := ?_) #[true, true, true, true, true, true, true, false, false, false, false, false, false, false, false, false] rfl rfl (by kernel_rfl) (fun _ _ _ h => h) (Or.inl ⟨by rfl, ?_⟩) hHeld ?_ ?_
   rotate_left
   ·rintro w' ⟨s0, s1⟩
    go_simp
    with_reducible rfl
   rotate_left
   ·simp only [Act.put, List.setIfInBounds_toArray, List.set_cons_zero, List.set_cons_succ, i64_w, i32_w]
    rfl
   refine take_ (i := 7) (N := some 14) (v := ?_) (a' := ?_) #[true, true, true, true, true, true, true, true, false, false, false, false, false, false, false, false] rfl rfl (by kernel_rfl) (fun _ _ _ h => h) (Or.inl ⟨by rfl, ?_⟩) hHeld ?_ ?_
   rotate_left
   ·rintro w' ⟨s0, s1⟩
    go_simp
    with_reducible rfl
   rotate_left
   ·simp only [Act.put, List.setIfInBounds_toArray, List.set_cons_zero, List.set_cons_succ, i64_w, i32_w]
    rfl
   refine last_ (i := 8) (N := some 15) #[true, true, true, true, true, true, true, true, true, false, false, false, false, false, false, false] rfl rfl (by kernel_rfl) (by decide) (fun K hK => ?_)
   refine goes_ Tryz.func131 (by kernel_rfl) rfl #[.slice A s0_0.length c, .int .i64 s0_1] (by rfl) rfl rfl (by simp only [List.map_toArray, List.map_cons, List.map_nil]; rfl) ?_
   with_reducible refine (impl_GetTexts.calls k A c s0_0 s0_1 _ _ _ w.drew (Kd.C_drew HC.out) HQ.out HA.out).mono ?_
   rintro e w3 ⟨v, rfl, ho, hb⟩
   refine ⟨_, rfl, ?_⟩
   refine hK.out _ _ ?_
   clear hK K
   refine norm_ (a' := ?_) ?_ ?_
   rotate_left
   ·show Act.put _ (some 15) _ = _
    simp only [Act.put, List.setIfInBounds_toArray, List.set_cons_zero, List.set_cons_succ, i64_w, i32_w]
    rfl
   refine pure_ (i := 9) (N := some 6) (v := ?_) (a' := ?_) #[true, true, true, true, true, true, true, true, true, true, false, false, false, false, false, false] rfl rfl (by kernel_rfl) (fun _ _ _ h => h) (Or.inl ⟨by rfl, ?_⟩) ?_ ?_
   rotate_left
   ·intro w'
    go_simp
    with_reducible rfl
   rotate_left
   ·simp only [Act.put, List.setIfInBounds_toArray, List.set_cons_zero, List.set_cons_succ, i64_w, i32_w]
    rfl
   refine pure_ (i := 10) (N := some 16) (v := ?_) (a' := ?_) #[true, true, true, true, true, true, true, true, true, true, true, false, false, false, false, false] rfl rfl (by kernel_rfl) (fun _ _ _ h => h) (Or.inl ⟨by rfl, ?_⟩) ?_ ?_
   rotate_left
   ·intro w'
    go_simp
    with_reducible rfl
   rotate_left
   ·simp only [Act.put, List.setIfInBounds_toArray, List.set_cons_zero, List.set_cons_succ, i64_w, i32_w]
    rfl
   refine pure_ (i := 11) (N := some 17) (v := ?_) (a' := ?_) #[true, true, true, true, true, true, true, true, true, true, true, true, false, false, false, false] rfl rfl (by kernel_rfl) (fun _ _ _ h => h) (Or.inl ⟨by rfl, ?_⟩) ?_ ?_
   rotate_left
   ·intro w'
    go_simp
    with_reducible rfl
   rotate_left
   ·simp only [Act.put, List.setIfInBounds_toArray, List.set_cons_zero, List.set_cons_succ, i64_w, i32_w]
    rfl
   refine pure_ (i := 12) (N := some 18) (v := ?_) (a' := ?_) #[true, true, true, true, true, true, true, true, true, true, true, true, true, false, false, false] rfl rfl (by kernel_rfl) (fun _ _ _ h => h) (Or.inl ⟨by rfl, ?_⟩) ?_ ?_
   rotate_left
   ·intro w'
    go_simp
    with_reducible rfl
   rotate_left
   ·simp only [Act.put, List.setIfInBounds_toArray, List.set_cons_zero, List.set_cons_succ, i64_w, i32_w]
    rfl
   refine pure_ (i := 13) (N := some 3) (v := ?_) (a' := ?_) #[true, true, true, true, true, true, true, true, true, true, true, true, true, true, false, false] rfl rfl (by kernel_rfl) (fun _ _ _ h => h) (Or.inl ⟨by rfl, ?_⟩) ?_ ?_
   rotate_left
   ·intro w'
    go_simp
    with_reducible rfl
   rotate_left
   ·simp only [Act.put, List.setIfInBounds_toArray, List.set_cons_zero, List.set_cons_succ, i64_w, i32_w]
    rfl
   refine pure_ (i := 14) (N := some 4) (v := ?_) (a' := ?_) #[true, true, true, true, true, true, true, true, true, true, true, true, true, true, true, false] rfl rfl (by kernel_rfl) (fun _ _ _ h => h) (Or.inl ⟨by rfl, ?_⟩) ?_ ?_
   rotate_left
   ·intro w'
    go_simp
    with_reducible rfl
   rotate_left
   ·simp only [Act.put, List.setIfInBounds_toArray, List.set_cons_zero, List.set_cons_succ, i64_w, i32_w]
    rfl
   refine pure_ (i := 15) (N := some 5) (v := ?_) (a' := ?_) #[true, true, true, true, true, true, true, true, true, true, true, true, true, true, true, true] rfl rfl (by kernel_rfl) (fun _ _ _ h => h) (Or.inl ⟨by rfl, ?_⟩) ?_ ?_
   rotate_left
   ·intro w'
    go_simp
    with_reducible rfl
   rotate_left
   ·simp only [Act.put, List.setIfInBounds_toArray, List.set_cons_zero, List.set_cons_succ, i64_w, i32_w]
    rfl
   refine done_ (by kernel_rfl) ?_
   have HI3 := Aside0.mk (IsS116.below (IsS116.drew HI.out) hb)
   have HB3 := Aside0.mk (below_step (below_drew1 HB.out) hb)
   have HK3 := Aside0.mk (show KeepBut w w3 g none from KeepBut.of_below hb g none)
   have HO := Aside0.mk (show Kd.R Kd.string 9 w3 w.heap.size (fun _ => True) v t1 from ho)
   obtain ⟨A4, c4, HG, hg, HS, HSQ⟩ := HI3.out
   have hcy_1 := cellS116_1 HG
   have hcy_2 := cellS116_2 HG
   have hfy_1 := blk_frozen HG 1
   have hfy_2 := blk_frozen HG 2
   have HG3 := Aside0.mk HG
   clear HG hg HS HSQ ho hb hHeld hcz_0 hcz_1
   go_wp2
   go_ret
   refine ⟨_, rfl, Kd.R_nil _ _ _ _ _, IsS116.set_2 HI3.out true, below_set HB3.out (IsS116.ge HI3.out), KeepBut.set_ HK3.out _ _⟩
end Go.Proofs.YtnlndmoecljicaaGreat.Q
end
section
namespace Go.Proofs.YtnlndmoecljicaaGreat.Q
open Go.RowKit Go.Proofs.YtnlndmoecljicaaGreatW.PrintWords Go.Proofs.YtnlndmoecljicaaGreatW.PrintLast Go.Proofs.YtnlndmoecljicaaGreatW.PrintMore
attribute [local go_sem] max2_int min2_int max_two min_two max_three min_three max_four min_four   -- for this text's walks alone
set_option linter.unusedVariables false
set_option linter.unusedSimpArgs false
def impl_getter_text.f (k : Nat) (s0_0 : List Int) (s0_1 : Int) (s0_2 : Bool) : Option (ByteArray × Int × Bool) := (impl_GetText.f k s0_0 s0_1).bind fun bt601 => (if s0_2 = true then (some ((⟨#[]⟩ : ByteArray), s0_1, true)) else (if bt601.2.2 = true then (some (bt601.1, bt601.2.1, s0_2)) else (some ((⟨#[]⟩ : ByteArray), s0_1, true))))
set_option maxHeartbeats 8000000 in
set_option maxRecDepth 100000 in
theorem impl_getter_text.calls (k : Nat) (g : Nat) (s0_0 : List Int) (s0_1 : Int) (s0_2 : Bool) (r1 : ByteArray) (r2 : Int) (r3 : Bool) (w0 w : World) (hI : IsS116 w0 w g s0_0 s0_1 s0_2) (hB : Below w0.heap.size w0 w) (h : impl_getter_text.f k s0_0 s0_1 s0_2 = some (r1, r2, r3)) :
  Calls Tryz.prog 99 #[.pointer (some ⟨g, 0, none⟩)] w fun e w' => e = .returned (.string r1) ∧ IsS116 w0 w' g s0_0 r2 r3 ∧ Below w0.heap.size w0 w' ∧ KeepBut w w' g none := by
 have HI0 := Aside0.mk hI
 have HK := Aside0.mk (KeepBut.refl w g none)
 have HL := Aside0.mk hB.size
 clear hI
 have HW0 := Aside0.mk hB.size
 have HB := Aside0.mk hB
 clear hB
 have H : ((impl_GetText.f k s0_0 s0_1).bind fun bt601 => (if s0_2 = true then (some ((⟨#[]⟩ : ByteArray), s0_1, true)) else (if bt601.2.2 = true then (some (bt601.1, bt601.2.1, s0_2)) else (some ((⟨#[]⟩ : ByteArray), s0_1, true))))) = some (r1, r2, r3) := h
 clear h
 replace H := bi_ H; obtain ⟨⟨t601, t602, t603⟩, A2, H⟩ := H
 dsimp only at H
 replace H := itb_ H; obtain ⟨rfl, H⟩ | ⟨rfl, H⟩ := H
 ·replace H := so3_ H; obtain ⟨rfl, rfl, rfl⟩ := H
  obtain ⟨ASz4_0, cSz4_0, HGz4, hgz4, HSz4_0, HSQz4_0⟩ := HI0.out
  have hcz4_0 := cellS116_0 HGz4
  have hcz4_1 := cellS116_1 HGz4
  have hcz4_2 := cellS116_2 HGz4
  have hfz4_1 := blk_frozen HGz4 1
  have hfz4_2 := blk_frozen HGz4 2
  clear HGz4 hgz4
  go_enter Tryz.func99, Tryz.ntmps99
  go_wp2_with (first | (go_at_call 130; (with_reducible refine (impl_GetText.calls k _ _ s0_0 s0_1 t601 t602 t603 _ ?side1 ?side2 A2.out).mono ?_); (case side1 => exact Kd.C_below HSz4_0 (bs1_ HB (IsS116.ge HI0.out))); (case side2 => exact HSQz4_0); rintro e w' ⟨rfl, ⟨nd, rfl⟩⟩; (try first | exact ⟨rfl, _, World.drewN_drewN _ _ _⟩ | exact ⟨rfl, _, Eq.trans (World.drewN_drewN _ _ _) (congrArg (World.drewN _) (Nat.add_assoc _ _ _))⟩)))
  repeat (go_quiet (first | (go_at_call 130; (with_reducible refine (impl_GetText.calls k _ _ s0_0 s0_1 t601 t602 t603 _ ?side1 ?side2 A2.out).mono ?_); (case side1 => exact Kd.C_below HSz4_0 (bs1_ HB (IsS116.ge HI0.out))); (case side2 => exact HSQz4_0); rintro e w' ⟨rfl, ⟨nd, rfl⟩⟩; (try first | exact ⟨rfl, _, World.drewN_drewN _ _ _⟩ | exact ⟨rfl, _, Eq.trans (World.drewN_drewN _ _ _) (congrArg (World.drewN _) (Nat.add_assoc _ _ _))⟩))); try go_wp2_with (first | (go_at_call 130; (with_reducible refine (impl_GetText.calls k _ _ s0_0 s0_1 t601 t602 t603 _ ?side1 ?side2 A2.out).mono ?_); (case side1 => exact Kd.C_below HSz4_0 (bs1_ HB (IsS116.ge HI0.out))); (case side2 => exact HSQz4_0); rintro e w' ⟨rfl, ⟨nd, rfl⟩⟩; (try first | exact ⟨rfl, _, World.drewN_drewN _ _ _⟩ | exact ⟨rfl, _, Eq.trans (World.drewN_drewN _ _ _) (congrArg (World.drewN _) (Nat.add_assoc _ _ _))⟩))))
  go_ret
  exact ⟨e2_, in116_ HI0, bi116_ HB, kn_ HK⟩
 ·replace H := itb_ H; obtain ⟨rfl, H⟩ | ⟨rfl, H⟩ := H
  ·replace H := so3_ H; obtain ⟨rfl, rfl, rfl⟩ := H
   obtain ⟨ASz6_0, cSz6_0, HGz6, hgz6, HSz6_0, HSQz6_0⟩ := HI0.out
   have hcz6_0 := cellS116_0 HGz6
   have hcz6_1 := cellS116_1 HGz6
   have hcz6_2 := cellS116_2 HGz6
   have hfz6_1 := blk_frozen HGz6 1
   have hfz6_2 := blk_frozen HGz6 2
   clear HGz6 hgz6
   go_enter Tryz.func99, Tryz.ntmps99
   go_wp2_with (first | (go_at_call 130; (with_reducible refine (impl_GetText.calls k _ _ s0_0 s0_1 t601 t602 true _ ?side1 ?side2 A2.out).mono ?_); (case side1 => exact Kd.C_below HSz6_0 (bs1_ HB (IsS116.ge HI0.out))); (case side2 => exact HSQz6_0); rintro e w' ⟨rfl, ⟨nd, rfl⟩⟩; (try first | exact ⟨rfl, _, World.drewN_drewN _ _ _⟩ | exact ⟨rfl, _, Eq.trans (World.drewN_drewN _ _ _) (congrArg (World.drewN _) (Nat.add_assoc _ _ _))⟩)))
   repeat (go_quiet (first | (go_at_call 130; (with_reducible refine (impl_GetText.calls k _ _ s0_0 s0_1 t601 t602 true _ ?side1 ?side2 A2.out).mono ?_); (case side1 => exact Kd.C_below HSz6_0 (bs1_ HB (IsS116.ge HI0.out))); (case side2 => exact HSQz6_0); rintro e w' ⟨rfl, ⟨nd, rfl⟩⟩; (try first | exact ⟨rfl, _, World.drewN_drewN _ _ _⟩ | exact ⟨rfl, _, Eq.trans (World.drewN_drewN _ _ _) (congrArg (World.drewN _) (Nat.add_assoc _ _ _))⟩))); try go_wp2_with (first | (go_at_call 130; (with_reducible refine (impl_GetText.calls k _ _ s0_0 s0_1 t601 t602 true _ ?side1 ?side2 A2.out).mono ?_); (case side1 => exact Kd.C_below HSz6_0 (bs1_ HB (IsS116.ge HI0.out))); (case side2 => exact HSQz6_0); rintro e w' ⟨rfl, ⟨nd, rfl⟩⟩; (try first | exact ⟨rfl, _, World.drewN_drewN _ _ _⟩ | exact ⟨rfl, _, Eq.trans (World.drewN_drewN _ _ _) (congrArg (World.drewN _) (Nat.add_assoc _ _ _))⟩))))
   go_ret
   exact ⟨e2_, in116_ HI0, bi116_ HB, kn_ HK⟩
  ·replace H := so3_ H; obtain ⟨rfl, rfl, rfl⟩ := H
   obtain ⟨ASz7_0, cSz7_0, HGz7, hgz7, HSz7_0, HSQz7_0⟩ := HI0.out
   have hcz7_0 := cellS116_0 HGz7
   have hcz7_1 := cellS116_1 HGz7
   have hcz7_2 := cellS116_2 HGz7
   have hfz7_1 := blk_frozen HGz7 1
   have hfz7_2 := blk_frozen HGz7 2
   clear HGz7 hgz7
   go_enter Tryz.func99, Tryz.ntmps99
   go_wp2_with (first | (go_at_call 130; (with_reducible refine (impl_GetText.calls k _ _ s0_0 s0_1 t601 t602 false _ ?side1 ?side2 A2.out).mono ?_); (case side1 => exact Kd.C_below HSz7_0 (bs1_ HB (IsS116.ge HI0.out))); (case side2 => exact HSQz7_0); rintro e w' ⟨rfl, ⟨nd, rfl⟩⟩; (try first | exact ⟨rfl, _, World.drewN_drewN _ _ _⟩ | exact ⟨rfl, _, Eq.trans (World.drewN_drewN _ _ _) (congrArg (World.drewN _) (Nat.add_assoc _ _ _))⟩)))
   repeat (go_quiet (first | (go_at_call 130; (with_reducible refine (impl_GetText.calls k _ _ s0_0 s0_1 t601 t602 false _ ?side1 ?side2 A2.out).mono ?_); (case side1 => exact Kd.C_below HSz7_0 (bs1_ HB (IsS116.ge HI0.out))); (case side2 => exact HSQz7_0); rintro e w' ⟨rfl, ⟨nd, rfl⟩⟩; (try first | exact ⟨rfl, _, World.drewN_drewN _ _ _⟩ | exact ⟨rfl, _, Eq.trans (World.drewN_drewN _ _ _) (congrArg (World.drewN _) (Nat.add_assoc _ _ _))⟩))); try go_wp2_with (first | (go_at_call 130; (with_reducible refine (impl_GetText.calls k _ _ s0_0 s0_1 t601 t602 false _ ?side1 ?side2 A2.out).mono ?_); (case side1 => exact Kd.C_below HSz7_0 (bs1_ HB (IsS116.ge HI0.out))); (case side2 => exact HSQz7_0); rintro e w' ⟨rfl, ⟨nd, rfl⟩⟩; (try first | exact ⟨rfl, _, World.drewN_drewN _ _ _⟩ | exact ⟨rfl, _, Eq.trans (World.drewN_drewN _ _ _) (congrArg (World.drewN _) (Nat.add_assoc _ _ _))⟩))))
   go_ret
   exact ⟨e2_, in116_ HI0, bi116_ HB, kn_ HK⟩
def spec_HeadOk.f (a0_0 : Int) (a0_1 : ByteArray) : Option (Bool) := (spec_l1In.f a0_0 0 200).bind fun t602 => (if t602 = true then (some ((a0_1.size : Int) == 32)) else (some false))
set_option maxHeartbeats 8000000 in
set_option maxRecDepth 100000 in
theorem spec_HeadOk.calls (a0_0 : Int) (a0_1 : ByteArray) (r : Bool) (w : World) (h : spec_HeadOk.f a0_0 a0_1 = some r) :
  Calls Tryz.prog 74 #[.agg #[.int .i64 a0_0, .string a0_1]] w fun e w' => e = .returned (.bool r) ∧ Below w.heap.size w w' := by
 have hu37 := Tryz.underlying37
 have HB := Aside0.mk (Below.refl w.heap.size w)
 have H : ((spec_l1In.f a0_0 0 200).bind fun t602 => (if t602 = true then (some ((a0_1.size : Int) == 32)) else (some false))) = some r := h
 clear h
 replace H := bi_ H; obtain ⟨t602, A2, H⟩ := H
 replace H := itb_ H; obtain ⟨rfl, H⟩ | ⟨rfl, H⟩ := H
 ·obtain rfl := Option.some.inj H
  go_enter Tryz.func74, Tryz.ntmps74
  go_wp2_with (first | ((with_reducible refine gd_ 1 ?_); (try (refine gate_guard (by rfl) ?_; dsimp only)); refine bx_ 1 37 #[.int .i64 a0_0, .string a0_1] ?_; intro gb601 hg w4 hbox hb; have BK601 := Aside0.mk hbox; have GW601 := gg_ hg HB; have GE601 := GW601; replace HB := ss_ HB hb; clear hb hbox hg; have hz5 := cz2_ BK601) | ((with_reducible refine gq_ 72 5 ?_); refine gc_ 5 Tryz.func72 (spec_l1In.calls a0_0 0 200 true _ A2.out) ?_; rintro e w' ⟨rfl, ⟨nd, rfl⟩⟩; refine ⟨_, rfl, ?_⟩))
  go_ret
  exact ⟨e2_, bw_ HB⟩
 ·obtain rfl := Option.some.inj H
  go_enter Tryz.func74, Tryz.ntmps74
  go_wp2_with (first | ((with_reducible refine gd_ 1 ?_); (try (refine gate_guard (by rfl) ?_; dsimp only)); refine bx_ 1 37 #[.int .i64 a0_0, .string a0_1] ?_; intro gb601 hg w6 hbox hb; have BK601 := Aside0.mk hbox; have GW601 := gg_ hg HB; have GE601 := GW601; replace HB := ss_ HB hb; clear hb hbox hg; have hz7 := cz2_ BK601) | ((with_reducible refine gq_ 72 5 ?_); refine gc_ 5 Tryz.func72 (spec_l1In.calls a0_0 0 200 false _ A2.out) ?_; rintro e w' ⟨rfl, ⟨nd, rfl⟩⟩; refine ⟨_, rfl, ?_⟩))
  go_ret
  exact ⟨e2_, bw_ HB⟩
def impl_HeadOk.f (a0_0 : Int) (a0_1 : ByteArray) : Option (Bool) := (impl_inRange.f a0_0 0 200).bind fun t602 => (if t602 = true then (some ((a0_1.size : Int) == 32)) else (some false))
set_option maxHeartbeats 8000000 in
set_option maxRecDepth 100000 in
theorem impl_HeadOk.calls (a0_0 : Int) (a0_1 : ByteArray) (r : Bool) (w : World) (h : impl_HeadOk.f a0_0 a0_1 = some r) :
  Calls Tryz.prog 60 #[.agg #[.int .i64 a0_0, .string a0_1]] w fun e w' => e = .returned (.bool r) ∧ Below w.heap.size w w' := by
 have hu37 := Tryz.underlying37
 have HB := Aside0.mk (Below.refl w.heap.size w)
 have H : ((impl_inRange.f a0_0 0 200).bind fun t602 => (if t602 = true then (some ((a0_1.size : Int) == 32)) else (some false))) = some r := h
 clear h
 replace H := bi_ H; obtain ⟨t602, A2, H⟩ := H
 replace H := itb_ H; obtain ⟨rfl, H⟩ | ⟨rfl, H⟩ := H
 ·obtain rfl := Option.some.inj H
  go_enter Tryz.func60, Tryz.ntmps60
  go_wp2_with (first | ((with_reducible refine gd_ 1 ?_); (try (refine gate_guard (by rfl) ?_; dsimp only)); refine bx_ 1 37 #[.int .i64 a0_0, .string a0_1] ?_; intro gb601 hg w4 hbox hb; have BK601 := Aside0.mk hbox; have GW601 := gg_ hg HB; have GE601 := GW601; replace HB := ss_ HB hb; clear hb hbox hg; have hz5 := cz2_ BK601) | ((with_reducible refine gq_ 63 5 ?_); refine gc_ 5 Tryz.func63 (impl_inRange.calls a0_0 0 200 true _ A2.out) ?_; rintro e w' ⟨rfl, ⟨nd, rfl⟩⟩; refine ⟨_, rfl, ?_⟩))
  go_ret
  exact ⟨e2_, bw_ HB⟩
 ·obtain rfl := Option.some.inj H
  go_enter Tryz.func60, Tryz.ntmps60
  go_wp2_with (first | ((with_reducible refine gd_ 1 ?_); (try (refine gate_guard (by rfl) ?_; dsimp only)); refine bx_ 1 37 #[.int .i64 a0_0, .string a0_1] ?_; intro gb601 hg w6 hbox hb; have BK601 := Aside0.mk hbox; have GW601 := gg_ hg HB; have GE601 := GW601; replace HB := ss_ HB hb; clear hb hbox hg; have hz7 := cz2_ BK601) | ((with_reducible refine gq_ 63 5 ?_); refine gc_ 5 Tryz.func63 (impl_inRange.calls a0_0 0 200 false _ A2.out) ?_; rintro e w' ⟨rfl, ⟨nd, rfl⟩⟩; refine ⟨_, rfl, ?_⟩))
  go_ret
  exact ⟨e2_, bw_ HB⟩
end Go.Proofs.YtnlndmoecljicaaGreat.Q
end
section
namespace Go.Proofs.YtnlndmoecljicaaGreat.Q
open Go.RowKit Go.Proofs.YtnlndmoecljicaaGreat.B Go.Proofs.YtnlndmoecljicaaGreatW.PrintWords Go.Proofs.YtnlndmoecljicaaGreatW.PrintMore
set_option linter.unusedVariables false
set_option linter.unusedSimpArgs false
def headOk (n : Int) (s : ByteArray) : Bool := if 0 ≤ n ∧ n ≤ 200 then ((s.size : Int) == 32) else false
theorem spec_HeadOk_eq (n : Int) (s : ByteArray) : spec_HeadOk.f n s = some (headOk n s) := by
 unfold spec_HeadOk.f headOk
 rw [spec_in_eq]
 simp only [Option.bind_some]
 by_cases h : 0 ≤ n ∧ n ≤ 200
 ·rw [decide_eq_true h, if_pos h]
  rfl
 ·rw [decide_eq_false h, if_neg h]
  rfl
theorem impl_HeadOk_eq (n : Int) (s : ByteArray) : impl_HeadOk.f n s = some (headOk n s) := by
 unfold impl_HeadOk.f headOk
 rw [impl_in_eq]
 simp only [Option.bind_some]
 by_cases h : 0 ≤ n ∧ n ≤ 200
 ·rw [decide_eq_true h, if_pos h]
  rfl
 ·rw [decide_eq_false h, if_neg h]
  rfl
theorem headOk_parts {n : Int} {s : ByteArray} (h : headOk n s = true) : 0 ≤ n ∧ n ≤ 200 ∧ s.size = 32 := by
 unfold headOk at h
 by_cases hn : 0 ≤ n ∧ n ≤ 200
 ·rw [if_pos hn] at h
  have := beq_iff_eq.1 h
  omega
 ·rw [if_neg hn] at h
  cases h
theorem nums_eq {l m : List Int} (hl : InB l) (hm : InB m) : ((strOfNums l).toList == (strOfNums m).toList) = decide (l = m) := by
 by_cases h : l = m
 ·rw [decide_eq_true h, h]
  simp
 ·rw [decide_eq_false h, beq_eq_false_iff_ne]
  intro e
  apply h
  have e2 : strOfNums l = strOfNums m := bytes_ext e
  rw [← bytes_nums l hl, ← bytes_nums m hm, e2]
theorem gtext_bad (b : List Int) (hb : InB b) (hl : b.length ≤ 1099511627776) (at_ : Int) (h0 : -9223372036854775808 ≤ at_) (h1 : at_ ≤ 9223372036854775807) : Ev (fun q => impl_getter_text.f q b at_ true) ((⟨#[]⟩ : ByteArray), at_, true) := by
 obtain ⟨m, x, ok, e1, e2, hN⟩ := getText_both b hb hl at_ h0 h1
 unfold impl_getter_text.f
 exact Ev.bind e2 (Ev.pos rfl (Ev.now _))
theorem gtexts_bad (b : List Int) (hb : InB b) (hl : b.length ≤ 1099511627776) (at_ : Int) (h0 : -9223372036854775808 ≤ at_) (h1 : at_ ≤ 9223372036854775807) : Ev (fun q => impl_getter_texts.f q b at_ true) (([] : List ByteArray), at_, true) := by
 obtain ⟨m, x, ok, e1, e2, hN⟩ := getTexts_both b hb hl at_ h0 h1
 unfold impl_getter_texts.f
 exact Ev.bind e2 (Ev.pos rfl (Ev.now _))
theorem gnum_go {b : List Int} {at_ m x : Int} {ok : Bool} (h : Ev (fun q => impl_GetNum.f q b at_) (m, x, ok)) : Ev (fun q => impl_getter_num.f q b at_ false) (if ok = true then (m, x, false) else (0, at_, true)) := by
 unfold impl_getter_num.f
 refine Ev.bind h (Ev.neg (by simp) ?_)
 cases ok with
 | true => exact Ev.pos rfl (Ev.now _)
 | false => exact Ev.neg (by simp) (Ev.now _)
theorem gtext_go {b : List Int} {at_ x : Int} {s : ByteArray} {ok : Bool} (h : Ev (fun q => impl_GetText.f q b at_) (s, x, ok)) : Ev (fun q => impl_getter_text.f q b at_ false) (if ok = true then (s, x, false) else ((⟨#[]⟩ : ByteArray), at_, true)) := by
 unfold impl_getter_text.f
 refine Ev.bind h (Ev.neg (by simp) ?_)
 cases ok with
 | true => exact Ev.pos rfl (Ev.now _)
 | false => exact Ev.neg (by simp) (Ev.now _)
theorem gtexts_go {b : List Int} {at_ x : Int} {t : List ByteArray} {ok : Bool} (h : Ev (fun q => impl_GetTexts.f q b at_) (t, x, ok)) : Ev (fun q => impl_getter_texts.f q b at_ false) (if ok = true then (t, x, false) else (([] : List ByteArray), at_, true)) := by
 unfold impl_getter_texts.f
 refine Ev.bind h (Ev.neg (by simp) ?_)
 cases ok with
 | true => exact Ev.pos rfl (Ev.now _)
 | false => exact Ev.neg (by simp) (Ev.now _)
theorem manyB_inB (t : List ByteArray) : InB (manyB t) := by
 induction t with
 | nil => exact inB_nil
 | cons s t ih =>
  rw [manyB_cons]
  exact inB_app (textB_inB s) ih
theorem textsB_inB (t : List ByteArray) : InB (textsB t) := inB_app (num_inB _) (manyB_inB t)
theorem manyB_ge (t : List ByteArray) : total t + t.length ≤ ((manyB t).length : Int) := by
 induction t with
 | nil => simp [manyB_nil, total]
 | cons s t ih =>
  have := num_pos s.size
  rw [manyB_cons, List.length_append, textB_length, total_cons, List.length_cons]
  omega
theorem num_step (b : List Int) (hb : InB b) (hl : b.length ≤ 1099511627776) (a : Nat) (ha : a ≤ b.length) :
  (Ev (fun q => spec_GetNum.f q b (a : Int)) (0, 0, false) ∧ Ev (fun q => impl_getter_num.f q b (a : Int) false) (0, (a : Int), true) ∧ ∀ (n : Nat) r, b.drop a = num n ++ r → n ≤ 1000000000 → False) ∨
  (∃ n p : Nat, n ≤ 1000000000 ∧ p ≤ b.length ∧ b.drop a = num n ++ b.drop p ∧ p = a + (num n).length ∧ Ev (fun q => spec_GetNum.f q b (a : Int)) ((n : Int), (p : Int), true) ∧ Ev (fun q => impl_getter_num.f q b (a : Int) false) ((n : Int), (p : Int), false)) := by
 obtain ⟨m, x, ok, e1, e2, hN⟩ := getNum_both b hb hl (a : Int) (by omega) (by omega)
 have g := gnum_go e2
 cases ok with
 | false =>
  rw [if_neg (by simp)] at g
  obtain ⟨rfl, rfl, h3⟩ := hN.1 rfl
  exact .inl ⟨e1, g, fun n r h1 h2 => h3 a n r rfl h1 h2⟩
 | true =>
  rw [if_pos rfl] at g
  obtain ⟨a', n, ha', rfl, h1, h2, rfl, h4⟩ := hN.2 rfl
  obtain rfl : a = a' := by omega
  exact .inr ⟨n, _, h1, h4, h2, rfl, e1, g⟩
theorem text_step (b : List Int) (hb : InB b) (hl : b.length ≤ 1099511627776) (a : Nat) (ha : a ≤ b.length) :
  (Ev (fun q => spec_GetText.f q b (a : Int)) ((⟨#[]⟩ : ByteArray), 0, false) ∧ Ev (fun q => impl_getter_text.f q b (a : Int) false) ((⟨#[]⟩ : ByteArray), (a : Int), true) ∧ ∀ (s : ByteArray) r, b.drop a = textB s ++ r → s.size ≤ 1000000000 → False) ∨
  (∃ (s : ByteArray) (p : Nat), s.size ≤ 1000000000 ∧ p ≤ b.length ∧ b.drop a = textB s ++ b.drop p ∧ p = a + (textB s).length ∧ Ev (fun q => spec_GetText.f q b (a : Int)) (s, (p : Int), true) ∧ Ev (fun q => impl_getter_text.f q b (a : Int) false) (s, (p : Int), false)) := by
 obtain ⟨m, x, ok, e1, e2, hN⟩ := getText_both b hb hl (a : Int) (by omega) (by omega)
 have g := gtext_go e2
 cases ok with
 | false =>
  rw [if_neg (by simp)] at g
  obtain ⟨rfl, rfl, h3⟩ := hN.1 rfl
  exact .inl ⟨e1, g, fun n r h1 h2 => h3 a n r rfl h1 h2⟩
 | true =>
  rw [if_pos rfl] at g
  obtain ⟨a', ha', h1, h2, rfl, h4⟩ := hN.2 rfl
  obtain rfl : a = a' := by omega
  exact .inr ⟨m, _, h1, h4, h2, rfl, e1, g⟩
theorem texts_step (b : List Int) (hb : InB b) (hl : b.length ≤ 1099511627776) (a : Nat) (ha : a ≤ b.length) :
  (Ev (fun q => spec_GetTexts.f q b (a : Int)) (([] : List ByteArray), 0, false) ∧ Ev (fun q => impl_getter_texts.f q b (a : Int) false) (([] : List ByteArray), (a : Int), true) ∧ ∀ (t : List ByteArray) r, b.drop a = textsB t ++ r → t.length ≤ 200 → (∀ s ∈ t, s.size ≤ 1000000000) → False) ∨
  (∃ (t : List ByteArray) (p : Nat), t.length ≤ 200 ∧ (∀ s ∈ t, s.size ≤ 1000000000) ∧ p ≤ b.length ∧ b.drop a = textsB t ++ b.drop p ∧ p = a + (textsB t).length ∧ Ev (fun q => spec_GetTexts.f q b (a : Int)) (t, (p : Int), true) ∧ Ev (fun q => impl_getter_texts.f q b (a : Int) false) (t, (p : Int), false)) := by
 obtain ⟨m, x, ok, e1, e2, hN⟩ := getTexts_both b hb hl (a : Int) (by omega) (by omega)
 have g := gtexts_go e2
 cases ok with
 | false =>
  rw [if_neg (by simp)] at g
  obtain ⟨rfl, rfl, h3⟩ := hN.1 rfl
  exact .inl ⟨e1, g, fun n r h1 h2 h5 => h3 a n r rfl h1 h2 h5⟩
 | true =>
  rw [if_pos rfl] at g
  obtain ⟨a', ha', h1, h5, h2, rfl, h4⟩ := hN.2 rfl
  obtain rfl : a = a' := by omega
  exact .inr ⟨m, _, h1, h5, h4, h2, rfl, e1, g⟩
theorem text_any (b : List Int) (hb : InB b) (hl : b.length ≤ 1099511627776) (x : Int) (h : 0 ≤ x ∧ x ≤ b.length) : ∃ m y ok, Ev (fun q => spec_GetText.f q b x) (m, y, ok) ∧ 0 ≤ y ∧ y ≤ b.length := by
 obtain ⟨a, rfl⟩ := Int.eq_ofNat_of_zero_le h.1
 rcases text_step b hb hl a (by omega) with ⟨e, _⟩ | ⟨n, p, _, h2, _, _, e, _⟩
 ·exact ⟨_, _, _, e, by omega, by omega⟩
 ·exact ⟨_, _, _, e, by omega, by omega⟩
theorem texts_any (b : List Int) (hb : InB b) (hl : b.length ≤ 1099511627776) (x : Int) (h : 0 ≤ x ∧ x ≤ b.length) : ∃ m y ok, Ev (fun q => spec_GetTexts.f q b x) (m, y, ok) ∧ 0 ≤ y ∧ y ≤ b.length := by
 obtain ⟨a, rfl⟩ := Int.eq_ofNat_of_zero_le h.1
 rcases texts_step b hb hl a (by omega) with ⟨e, _⟩ | ⟨n, p, _, _, h2, _, _, e, _⟩
 ·exact ⟨_, _, _, e, by omega, by omega⟩
 ·exact ⟨_, _, _, e, by omega, by omega⟩
end Go.Proofs.YtnlndmoecljicaaGreat.Q
end
section
namespace Go.Proofs.YtnlndmoecljicaaGreat.Q
open Go.RowKit Go.Proofs.YtnlndmoecljicaaGreatW.PrintWords Go.Proofs.YtnlndmoecljicaaGreatW.PrintLast Go.Proofs.YtnlndmoecljicaaGreatW.PrintMore
attribute [local go_sem] max2_int min2_int max_two min_two max_three min_three max_four min_four   -- for this text's walks alone
set_option linter.unusedVariables false
set_option linter.unusedSimpArgs false
def impl_putCommit.f (k : Nat) (a0_0 : Int) (a0_1 : ByteArray) (l1 : List ByteArray) : Option (List Int) := (impl_putNum.f k ([] : List Int) a0_0).bind fun t602 => ((impl_putText.f k t602 a0_1).bind fun t605 => ((impl_putTexts.f k t605 l1).bind fun t608 => ((impl_putNum.f k ([] : List Int) (t608.length : Int)).bind fun t611 => (if t611.length + t608.length < 140737488355328 then ((some (t611 ++ t608 : List Int)).bind fun y614 => ((impl_Digest.f t608).bind fun t617 => (if 0 ≤ 4 then (if 4 ≤ (t617.size : Int) then (if y614.length + (t617.extract 0 4).size < 140737488355328 then (some (y614 ++ bytesOf (t617.extract 0 4))) else (none)) else (none)) else (none)))) else (none)))))
def impl_putCommit.T1 : Bool × List (List Nat × List Nat) := (true, [([], []), ([0], [0]), ([1], [1]), ([], []), ([3], [3]), ([2, 4, 2], [2, 4]), ([], []), ([5, 6, 5], [5, 6]), ([7, 7, 0, 1, 2, 3, 4, 5, 6, 7], [7])])
def impl_putCommit.B1 : List Nat := [0, 1, 3, 0, 8, 31, 0, 127, 255]
theorem impl_putCommit.tab1 : rtab .any (opsOf Tryz.f132 1) = impl_putCommit.T1 := by kernel_rfl
theorem impl_putCommit.bits1 : waitsOk impl_putCommit.T1.2 impl_putCommit.B1 = true := by kernel_rfl
set_option maxHeartbeats 8000000 in
set_option maxRecDepth 100000 in
theorem impl_putCommit.calls (k : Nat) (a0_0 : Int) (a0_1 : ByteArray) (A1 : Option Addr) (c1 : Nat) (l1 : List ByteArray) (r : List Int) (w : World) (hr1 : Kd.C Kd.string w A1 l1.length l1) (hc1 : l1.length ≤ c1) (h : impl_putCommit.f k a0_0 a0_1 l1 = some r) :
  Calls Tryz.prog 132 #[.agg #[.int .i64 a0_0, .string a0_1], .slice A1 l1.length c1] w fun e w' => ∃ v0_ : Value, e = .returned (v0_) ∧ Kd.R (Kd.int .u8) 5 w' w.heap.size (fun _ => True) v0_ r ∧ Below w.heap.size w w' := by
 have hu37 := Tryz.underlying37
 have HR1 := Aside0.mk hr1
 have HC1 := Aside0.mk hc1
 clear hr1 hc1
 have HB := Aside0.mk (Below.refl w.heap.size w)
 have H : ((impl_putNum.f k ([] : List Int) a0_0).bind fun t602 => ((impl_putText.f k t602 a0_1).bind fun t605 => ((impl_putTexts.f k t605 l1).bind fun t608 => ((impl_putNum.f k ([] : List Int) (t608.length : Int)).bind fun t611 => (if t611.length + t608.length < 140737488355328 then ((some (t611 ++ t608 : List Int)).bind fun y614 => ((impl_Digest.f t608).bind fun t617 => (if 0 ≤ 4 then (if 4 ≤ (t617.size : Int) then (if y614.length + (t617.extract 0 4).size < 140737488355328 then (some (y614 ++ bytesOf (t617.extract 0 4))) else (none)) else (none)) else (none)))) else (none)))))) = some r := h
 clear h
 replace H := bi_ H; obtain ⟨t602, A3, H⟩ := H
 replace H := bi_ H; obtain ⟨t605, A4, H⟩ := H
 replace H := bi_ H; obtain ⟨t608, A5, H⟩ := H
 replace H := bi_ H; obtain ⟨t611, A6, H⟩ := H
 replace H := ip_ H; obtain ⟨c7, H⟩ := H
 have LMc7 := Aside0.mk c7
 clear c7
 obtain ⟨y614, Ny614, H⟩ := sb_ (t611 ++ t608) H
 replace H := bi_ H; obtain ⟨t617, A8, H⟩ := H
 replace H := ip_ H; obtain ⟨c9, H⟩ := H
 have c9b0 := eq_true c9
 have c9b1 := decide_eq_true c9
 clear c9
 replace H := ip_ H; obtain ⟨c10, H⟩ := H
 have c10b0 := eq_true c10
 have c10b1 := decide_eq_true c10
 clear c10
 replace H := ip_ H; obtain ⟨c11, H⟩ := H
 have LMc11 := Aside0.mk c11
 clear c11
 obtain ⟨y618, hy618⟩ : ∃ y_ : List Int, y_ = (y614 ++ bytesOf (t617.extract 0 4)) := ⟨_, rfl⟩
 replace H : (some y618) = some r := yh_ hy618 H
 have Ny618 := Aside0.mk hy618
 clear hy618
 obtain rfl := Option.some.inj H
 go_enter Tryz.func132, Tryz.ntmps132
 try go_wp2_with (first | ((with_reducible refine gd_ 2 ?_); refine bx_ 2 37 #[.int .i64 a0_0, .string a0_1] ?_; intro gb601 hg w12 hbox hb; have BK601 := Aside0.mk hbox; have GW601 := gg_ hg HB; have GE601 := GW601; replace HB := ss_ HB hb; clear hb hbox hg))
 replace BK601 := Aside0.mk (blk_drew BK601.out)
 replace HB := Aside0.mk (below_drew1 HB.out)
 refine start_ (n := 9) (S := fun w' => w'.cell? ⟨gb601, 0, none⟩ = some (.int .i64 a0_0) ∧ w'.cell? ⟨gb601, 1, none⟩ = some (.string a0_1)) (ds := []) (lz_ 9 0) (by kernel_rfl) rfl rfl ⟨bc0_ BK601.out, bc1_ BK601.out⟩ (fun hHeld => ?_); refine with_tabW impl_putCommit.tab1 impl_putCommit.bits1 (fun HT_ HW_ => ?_)
 generalize w12.drew = w13 at BK601 HB hHeld ⊢
 refine pt_ 0 7 1 ?_
 refine pt_ 3 10 9 ?_
 refine pt_ 6 13 73 ?_
 refine tt_ 1 8 75 ?_
 refine tt_ 4 11 91 ?_
 refine one_ (i := 2) (N := some 9) (lz_ 9 95) rfl rfl (one_of HT_.out (by kernel_rfl)) (by decide) (fun K hK => ?_)
 refine ge_ Tryz.func155 #[.slice none 0 0, .int .i64 a0_0] ?_
 refine (impl_putNum.calls k (fun k_ => some k_ = (.slice none 0 0 : Value).ownBlock) (.slice none 0 0) ([] : List Int) a0_0 t602 w _ ?side1 ?side2 A3.out).mono ?_
 (case side1 => exact bw_ HB)
 (case side2 => exact Kd.R_nil _ _ _ _ _)
 rintro e w14 ⟨v603, rfl, ho0, hb, hkp⟩
 refine ⟨_, rfl, ?_⟩
 replace BK601 := Aside0.mk (blk_kept (kb_ BK601.out) hkp (fun hs_ => (fun e_ => by simp [Value.ownBlock] at e_) hs_))
 have HO604 := Aside0.mk (Kd.R_mono (ok' := fun k_ => True) ho0 (fun k_ hk_ => trivial))
 replace HB := Aside0.mk hb
 clear hb hkp ho0
 obtain ⟨Ao15, co15, eo15⟩ := Kd.R_slice HO604.out
 (first | subst eo15 | (injection eo15 with f1_ f2_ f3_; have f4_ := f1_.symm; have f5_ := f3_.symm; clear f1_ f2_ f3_; subst f4_; subst f5_))
 refine hK.out _ _ ⟨bc0_ BK601.out, bc1_ BK601.out⟩ (fun hHeld => ?_)
 clear hK K
 refine no_ 9 ?_
 refine one_ (i := 5) (N := some 12) (lz_ 9 127) rfl rfl (one_of HT_.out (by kernel_rfl)) (by decide) (fun K hK => ?_)
 refine gf_ Tryz.func154 (impl_putText.calls k (fun k_ => some k_ = (.slice Ao15 t602.length co15 : Value).ownBlock) (.slice Ao15 t602.length co15) t602 a0_1 t605 w _ (bw_ HB) (Kd.R_tight rfl HO604.out) A4.out) ?_
 rintro e w16 ⟨v606, rfl, ho0, hb, hkp⟩
 refine ⟨_, rfl, ?_⟩
 replace BK601 := Aside0.mk (blk_kept (kb_ BK601.out) hkp (fun hs_ => (fun e_ => (Kd.R_ne HO604.out BK601.out (by decide)) e_) hs_))
 have HO607 := Aside0.mk (Kd.R_mono (ok' := fun k_ => True) ho0 (fun k_ hk_ => trivial))
 replace HB := Aside0.mk hb
 clear HO604
 clear hb hkp ho0
 obtain ⟨Ao17, co17, eo17⟩ := Kd.R_slice HO607.out
 (first | subst eo17 | (injection eo17 with f1_ f2_ f3_; have f4_ := f1_.symm; have f5_ := f3_.symm; clear f1_ f2_ f3_; subst f4_; subst f5_))
 refine hK.out _ _ ⟨bc0_ BK601.out, bc1_ BK601.out⟩ (fun hHeld => ?_)
 clear hK K
 refine no_ 12 ?_
 refine one_ (i := 7) (N := some 14) (lz_ 9 255) rfl rfl (one_of HT_.out (by kernel_rfl)) (by decide) (fun K hK => ?_)
 refine gf_ Tryz.func153 (impl_putTexts.calls k (fun k_ => some k_ = (.slice Ao17 t605.length co17 : Value).ownBlock) (.slice Ao17 t605.length co17) t605 _ _ l1 t608 w _ (bw_ HB) (Kd.R_tight rfl HO607.out) (Kd.C_kept_came Kd.heap_string HR1.out (bw_ HB) (fun k_ hs_ => (fun e_ => Kd.R_base HO607.out k_ e_.symm) hs_)) HC1.out A5.out) ?_
 rintro e w18 ⟨v609, rfl, ho0, hb, hkp⟩
 refine ⟨_, rfl, ?_⟩
 replace BK601 := Aside0.mk (blk_kept (kb_ BK601.out) hkp (fun hs_ => (fun e_ => (Kd.R_ne HO607.out BK601.out (by decide)) e_) hs_))
 have HO610 := Aside0.mk (Kd.R_mono (ok' := fun k_ => True) ho0 (fun k_ hk_ => trivial))
 replace HB := Aside0.mk hb
 clear HO607
 clear hb hkp ho0
 refine hK.out _ _ ⟨bc0_ BK601.out, bc1_ BK601.out⟩ (fun hHeld => ?_)
 clear hK K
 refine no_ 14 ?_
 refine pt_ 8 5 511 ?_
 refine done_ (done_of HT_.out (by kernel_rfl)) ?_
 obtain ⟨Ao19, co19, eo19⟩ := Kd.R_slice HO610.out
 subst eo19
 try go_wp2_with (first | ((with_reducible refine gk_ 155 ?_); refine gl_ 17 Tryz.func155 #[.slice none 0 0, .int .i64 (t608.length : Int)] ?_; (refine (impl_putNum.calls k (fun k_ => some k_ = (.slice none 0 0 : Value).ownBlock) (.slice none 0 0) ([] : List Int) (t608.length : Int) t611 w _ ?side1 ?side2 A6.out).mono ?_); (case side1 => exact bw_ HB); (case side2 => exact Kd.R_nil _ _ _ _ _); rintro e w20 ⟨v612, rfl, ho0, hb, hkp⟩; refine ⟨_, rfl, ?_⟩; replace BK601 := Aside0.mk (blk_kept (kb_ BK601.out) hkp (fun hs_ => (fun e_ => by simp [Value.ownBlock] at e_) hs_)); have HO613 := Aside0.mk (Kd.R_mono (ok' := fun k_ => some k_ ≠ (.slice Ao19 t608.length co19 : Value).ownBlock) ho0 (fun k_ hk_ => Or.elim hk_ (fun hs_ => absurd hs_ (by simp [Value.ownBlock])) (fun hn_ => (Kd.fresh' (lt_ HO610) k_ hn_)))); replace HO610 := Aside0.mk (Kd.R_mono (ok' := fun k_ => some k_ ≠ (v612 : Value).ownBlock) (Kd.R_keptB (HO610.out) hkp (fun k_ hk_ hs_ => (fun e_ => by simp [Value.ownBlock] at e_) hs_)) (fun k_ hk_ => fun e_ => Or.elim (ho0.1 k_ e_.symm) (fun hs_ => hk_.2.1 hs_) (fun hn_ => Nat.not_le.2 hk_.2.2 hn_))); replace HB := Aside0.mk hb; clear hb hkp ho0) | ((with_reducible refine gate_builtin (b := .append) (xs := #[.tmp 17, .tmp 18]) rfl ?_); at_builtin; refine Kd.R_append_rows (Kd.int .u8) (w0 := w) w.heap.size rfl (.tmp 17) (.tmp 18) 27 5 (.int .u8 0) 1 rfl Tryz.underlying27 info5 rfl (by decide) (by omega) v612 t611 t608 _ _ _ (fun k_ => some k_ ≠ (.slice Ao19 t608.length co19 : Value).ownBlock) (fun _ => False) rfl rfl ?aO ?aR (fun _ _ h => h) (fun _ h => h.elim) ?aF ?aB ?aS ?aL ?_; (case aR => repeat (first | exact (Kd.R_reads' HO610.out).2.2 | (with_reducible refine Kd.C_alloc ?_ _) | (with_reducible refine Kd.C_drewN ?_ _) | (with_reducible refine Kd.C_drew ?_))); (case aB => exact (bw_ HB)); (case aF => exact (fun k_ hk => Kd.fresh' (lt_ HO610) k_ hk)); (case aO => exact (kr_ HO613.out)); (case aS => exact (sz_ HB)); (case aL => have := LMc7.out; omega); intro v615 w21 ho hb hg hat; rw [← Ny614.out] at ho; replace BK601 := kg_ BK601 HO613 hg; replace HO610 := Aside0.mk (Kd.R_after (ok := (fun _ => True)) (kr_ (Kd.R_mono HO610.out (fun _ hk => ⟨trivial, hk⟩))) hg hat); replace HB := Aside0.mk hb; have HO616 := Aside0.mk ho; clear HO613; clear ho hb hg hat) | ((with_reducible refine gq_ 133 22 ?_); refine gc_ 22 Tryz.func133 (impl_Digest.calls _ _ t608 t617 _ (ch_ HO610) (cl_ HO610) A8.out) ?_; rintro e w22 ⟨rfl, hb⟩; refine ⟨_, rfl, ?_⟩; replace HO610 := rb_ HO610 hb; replace HO616 := rb_ HO616 hb; replace BK601 := kl_ BK601 hb; replace HB := ss_ HB hb; clear hb) | (at_builtin; refine print_append_strR (w0 := w) w.heap.size rfl (.tmp 20) _ 27 9 5 rfl Tryz.underlying27 Tryz.underlying9 info5 v615 y614 (t617.extract 0 4) (fun k_ => some k_ ≠ (.slice Ao19 t608.length co19 : Value).ownBlock) rfl rfl ?aF ?aO ?aB ?aS ?aL ?_; (case aB => exact (bw_ HB)); (case aF => exact (fun k_ hk => Kd.fresh' (lt_ HO610) k_ hk)); (case aO => exact (kr_ HO616.out)); (case aS => exact (sz_ HB)); (case aL => have := LMc11.out; omega); intro v619 w23 ho hb hg hat; rw [← Ny618.out] at ho; replace BK601 := kg_ BK601 HO616 hg; replace HO610 := Aside0.mk (Kd.R_after (ok := (fun _ => True)) (kr_ HO610.out) hg hat); replace HB := Aside0.mk hb; have HO620 := Aside0.mk ho; clear HO616; clear ho hb hg hat))
 go_ret
 exact ⟨_, e2_, by (with_reducible repeat (first | apply Kd.R_alloc | apply Kd.R_drewN | apply Kd.R_drew)); exact Kd.R_mono HO620.out (fun _ hk => trivial), bw_ HB⟩
def impl_PutCommit.f (k : Nat) (a0_0 : Int) (a0_1 : ByteArray) (l1 : List ByteArray) : Option (List Int) := (impl_HeadOk.f a0_0 a0_1).bind fun t602 => (if t602 = true then ((impl_inRange.f (l1.length : Int) 1 200).bind fun t603 => (if t603 = true then ((impl_putCommit.f k a0_0 a0_1 l1).bind fun t604 => (some t604)) else (some ([] : List Int)))) else (some ([] : List Int)))
set_option maxHeartbeats 8000000 in
set_option maxRecDepth 100000 in
theorem impl_PutCommit.calls (k : Nat) (a0_0 : Int) (a0_1 : ByteArray) (A1 : Option Addr) (c1 : Nat) (l1 : List ByteArray) (r : List Int) (w : World) (hr1 : Kd.C Kd.string w A1 l1.length l1) (hc1 : l1.length ≤ c1) (h : impl_PutCommit.f k a0_0 a0_1 l1 = some r) :
  Calls Tryz.prog 102 #[.agg #[.int .i64 a0_0, .string a0_1], .slice A1 l1.length c1] w fun e w' => ∃ v0_ : Value, e = .returned (v0_) ∧ Kd.R (Kd.int .u8) 5 w' w.heap.size (fun _ => True) v0_ r ∧ Below w.heap.size w w' := by
 have hu37 := Tryz.underlying37
 have HR1 := Aside0.mk hr1
 have HC1 := Aside0.mk hc1
 clear hr1 hc1
 have HB := Aside0.mk (Below.refl w.heap.size w)
 have H : ((impl_HeadOk.f a0_0 a0_1).bind fun t602 => (if t602 = true then ((impl_inRange.f (l1.length : Int) 1 200).bind fun t603 => (if t603 = true then ((impl_putCommit.f k a0_0 a0_1 l1).bind fun t604 => (some t604)) else (some ([] : List Int)))) else (some ([] : List Int)))) = some r := h
 clear h
 replace H := bi_ H; obtain ⟨t602, A3, H⟩ := H
 replace H := itb_ H; obtain ⟨rfl, H⟩ | ⟨rfl, H⟩ := H
 ·replace H := bi_ H; obtain ⟨t603, A5, H⟩ := H
  replace H := itb_ H; obtain ⟨rfl, H⟩ | ⟨rfl, H⟩ := H
  ·replace H := bi_ H; obtain ⟨t604, A7, H⟩ := H
   obtain rfl := Option.some.inj H
   go_enter Tryz.func102, Tryz.ntmps102
   go_wp2_with (first | ((with_reducible refine gd_ 2 ?_); (try (refine gate_guard (by rfl) ?_; dsimp only)); refine bx_ 2 37 #[.int .i64 a0_0, .string a0_1] ?_; intro gb601 hg w8 hbox hb; have BK601 := Aside0.mk hbox; have GW601 := gg_ hg HB; have GE601 := GW601; replace HB := ss_ HB hb; clear hb hbox hg; have hz9 := cz2_ BK601) | ((with_reducible refine gq_ 60 6 ?_); refine gc_ 6 Tryz.func60 (impl_HeadOk.calls a0_0 a0_1 true _ A3.out) ?_; rintro e w10 ⟨rfl, hb⟩; refine ⟨_, rfl, ?_⟩; replace BK601 := kl_ BK601 hb; replace HB := ss_ HB hb; clear hb) | (go_at_call 63; (with_reducible refine (impl_inRange.calls (l1.length : Int) 1 200 true _ A5.out).mono ?_); rintro e w' ⟨rfl, ⟨nd, rfl⟩⟩; have hz11 := cz2_ BK601) | ((with_reducible refine gq_ 132 16 ?_); refine gc_ 16 Tryz.func132 (impl_putCommit.calls k a0_0 a0_1 _ _ l1 t604 _ (cr_ (Kd.C_below HR1.out (bw_ HB))) HC1.out A7.out) ?_; rintro e w12 ⟨v605, rfl, ho0, hb⟩; refine ⟨_, rfl, ?_⟩; have HO606 := Aside0.mk (Kd.R_lower ho0 (sz_ HB)); replace BK601 := kl_ BK601 hb; replace HB := ss_ HB hb; clear hb ho0))
   go_ret
   exact ⟨_, e2_, kr_ HO606.out, bw_ HB⟩
  ·obtain rfl := Option.some.inj H
   go_enter Tryz.func102, Tryz.ntmps102
   go_wp2_with (first | ((with_reducible refine gd_ 2 ?_); (try (refine gate_guard (by rfl) ?_; dsimp only)); refine bx_ 2 37 #[.int .i64 a0_0, .string a0_1] ?_; intro gb601 hg w13 hbox hb; have BK601 := Aside0.mk hbox; have GW601 := gg_ hg HB; have GE601 := GW601; replace HB := ss_ HB hb; clear hb hbox hg; have hz14 := cz2_ BK601) | ((with_reducible refine gq_ 60 6 ?_); refine gc_ 6 Tryz.func60 (impl_HeadOk.calls a0_0 a0_1 true _ A3.out) ?_; rintro e w15 ⟨rfl, hb⟩; refine ⟨_, rfl, ?_⟩; replace BK601 := kl_ BK601 hb; replace HB := ss_ HB hb; clear hb) | (go_at_call 63; (with_reducible refine (impl_inRange.calls (l1.length : Int) 1 200 false _ A5.out).mono ?_); rintro e w' ⟨rfl, ⟨nd, rfl⟩⟩))
   go_ret
   exact ⟨_, e2_, by first | exact Kd.R_nil _ _ _ _ _ | exact Kd.N_nil _ _ _ _ _ | exact Kd.V_nil _ _ _ _ _ | exact Kd.Q_nil _ _ _ _ _ | exact Kd.S_nil _ _ _ _ _, bw_ HB⟩
 ·obtain rfl := Option.some.inj H
  go_enter Tryz.func102, Tryz.ntmps102
  go_wp2_with (first | ((with_reducible refine gd_ 2 ?_); (try (refine gate_guard (by rfl) ?_; dsimp only)); refine bx_ 2 37 #[.int .i64 a0_0, .string a0_1] ?_; intro gb601 hg w16 hbox hb; have BK601 := Aside0.mk hbox; have GW601 := gg_ hg HB; have GE601 := GW601; replace HB := ss_ HB hb; clear hb hbox hg; have hz17 := cz2_ BK601) | ((with_reducible refine gq_ 60 6 ?_); refine gc_ 6 Tryz.func60 (impl_HeadOk.calls a0_0 a0_1 false _ A3.out) ?_; rintro e w18 ⟨rfl, hb⟩; refine ⟨_, rfl, ?_⟩; replace BK601 := kl_ BK601 hb; replace HB := ss_ HB hb; clear hb))
  go_ret
  exact ⟨_, e2_, by first | exact Kd.R_nil _ _ _ _ _ | exact Kd.N_nil _ _ _ _ _ | exact Kd.V_nil _ _ _ _ _ | exact Kd.Q_nil _ _ _ _ _ | exact Kd.S_nil _ _ _ _ _, bw_ HB⟩
end Go.Proofs.YtnlndmoecljicaaGreat.Q
end
section
namespace Go.Proofs.YtnlndmoecljicaaGreat.Q
open Go.RowKit Go.Proofs.YtnlndmoecljicaaGreat.B Go.Proofs.YtnlndmoecljicaaGreatW.PrintWords Go.Proofs.YtnlndmoecljicaaGreatW.PrintMore
set_option linter.unusedVariables false
set_option linter.unusedSimpArgs false
def bodyB (n : Nat) (s : ByteArray) (t : List ByteArray) : List Int := num n ++ (textB s ++ textsB t)
def sumB (l : List Int) : List Int := bytesOf ((sha l).extract 0 4)
def commitB (n : Nat) (s : ByteArray) (t : List ByteArray) : List Int := num (bodyB n s t).length ++ (bodyB n s t ++ sumB (bodyB n s t))
theorem sumB_length (l : List Int) : (sumB l).length = 4 := by
 unfold sumB
 rw [bytesOf_length, ByteArray.size_extract, sha_size]
 rfl
theorem bodyB_inB (n : Nat) (s : ByteArray) (t : List ByteArray) : InB (bodyB n s t) := inB_app (num_inB _) (inB_app (textB_inB _) (textsB_inB _))
theorem sumB_inB (l : List Int) : InB (sumB l) := inB_text _
theorem commitB_inB (n : Nat) (s : ByteArray) (t : List ByteArray) : InB (commitB n s t) := inB_app (num_inB _) (inB_app (bodyB_inB _ _ _) (sumB_inB _))
theorem bodyB_ge (n : Nat) (s : ByteArray) (t : List ByteArray) : total t + t.length + s.size ≤ ((bodyB n s t).length : Int) := by
 have h := manyB_ge t
 unfold bodyB textsB
 rw [List.length_append, List.length_append, List.length_append, textB_length]
 omega
theorem bodyB_inj {n m : Nat} {s u : ByteArray} {t v : List ByteArray} {r q : List Int} (h : bodyB n s t ++ r = bodyB m u v ++ q) : n = m ∧ s = u ∧ t = v ∧ r = q := by
 unfold bodyB at h
 simp only [List.append_assoc] at h
 obtain ⟨h1, h⟩ := num_inj _ _ _ _ h
 obtain ⟨h2, h⟩ := textB_inj h
 obtain ⟨h3, h⟩ := textsB_inj h
 exact ⟨h1, h2, h3, h⟩
theorem commitB_inj {n m : Nat} {s u : ByteArray} {t v : List ByteArray} {r q : List Int} (h : commitB n s t ++ r = commitB m u v ++ q) : n = m ∧ s = u ∧ t = v ∧ r = q := by
 unfold commitB at h
 simp only [List.append_assoc] at h
 obtain ⟨h1, h⟩ := num_inj _ _ _ _ h
 obtain ⟨h2, h3⟩ := List.append_inj h h1
 obtain ⟨a, b, c, _⟩ := bodyB_inj (show bodyB n s t ++ [] = bodyB m u v ++ [] by rw [h2])
 subst a b c
 obtain ⟨_, h4⟩ := List.append_inj h3 rfl
 exact ⟨rfl, rfl, rfl, h4⟩
theorem putCommit_val (n : Nat) (s : ByteArray) (t : List ByteArray) (hn : n ≤ 200) (hs : s.size ≤ 1000) (ht : t.length ≤ 1000000) (htt : total t ≤ 100000000) (hx : ∀ x ∈ t, x.size ≤ 1000000000) : Ev (fun q => impl_putCommit.f q (n : Int) s t) (commitB n s t) := by
 have ht0 := total_nonneg t
 have a2 := (putNum_val [] n (by omega) (by simp)).2
 have h5 := num_five (show n ≤ 1000000000 by omega)
 have hs5 := num_five (show s.size ≤ 1000000000 by omega)
 have b2 := (putText_val ([] ++ num n) s (by omega) (by simp; omega)).2
 have c2 := (putTexts_val ([] ++ num n ++ textB s) t (by rw [List.length_append, textB_length]; simp; omega) (by omega) hx).2
 have eb : [] ++ num n ++ textB s ++ textsB t = bodyB n s t := by
  unfold bodyB
  simp
 rw [eb] at c2
 have hm := manyB_length t hx
 have ht5 := num_five (show t.length ≤ 1000000000 by omega)
 have hbl : (bodyB n s t).length ≤ 1000000000 := by
  unfold bodyB textsB
  rw [List.length_append, List.length_append, List.length_append, textB_length]
  omega
 have h4 : ((sha (bodyB n s t)).extract 0 4).size = 4 := by
  rw [ByteArray.size_extract, sha_size]
  rfl
 have h32 : (sha (bodyB n s t)).size = 32 := sha_size _
 have d2 := (putNum_val [] (bodyB n s t).length hbl (by simp)).2
 have hd5 := num_five hbl
 rw [List.nil_append] at d2
 unfold impl_putCommit.f commitB sumB
 refine Ev.bind a2 (Ev.bind b2 (Ev.bind c2 (Ev.bind d2 (Ev.pos (by omega) (Ev.bind (Ev.now _) (Ev.bind (Ev.const (impl_Digest_is (bodyB n s t) (by omega))) ?_))))))
 rw [← List.append_assoc]
 exact Ev.pos (by omega) (Ev.pos (by omega) (Ev.pos (by rw [List.length_append, h4]; omega) (Ev.now _)))
theorem PutCommit_val (n : Int) (s : ByteArray) (t : List ByteArray) (htt : total t ≤ 100000000) (ht : t.length ≤ 1000000) (hx : ∀ x ∈ t, x.size ≤ 1000000000) : Ev (fun q => impl_PutCommit.f q n s t) (if headOk n s = true ∧ 1 ≤ t.length ∧ t.length ≤ 200 then commitB n.toNat s t else []) := by
 unfold impl_PutCommit.f
 by_cases h : headOk n s = true
 ·obtain ⟨h1, h2, h3⟩ := headOk_parts h
  refine Ev.bind (Ev.const (impl_HeadOk_eq n s)) (Ev.pos h ?_)
  by_cases hl : 1 ≤ (t.length : Int) ∧ (t.length : Int) ≤ 200
  ·rw [if_pos ⟨h, by omega, by omega⟩]
   have hv := putCommit_val n.toNat s t (by omega) (by omega) ht htt hx
   rw [show ((n.toNat : Nat) : Int) = n by omega] at hv
   exact Ev.bind (Ev.const (impl_in_eq _ _ _)) (Ev.pos (decide_eq_true hl) (Ev.bind hv (Ev.now _)))
  ·rw [if_neg (fun q => hl ⟨by omega, by omega⟩)]
   exact Ev.bind (Ev.const (impl_in_eq _ _ _)) (Ev.neg (by rw [decide_eq_false hl]; simp) (Ev.now _))
 ·rw [if_neg (fun q => h q.1)]
  exact Ev.bind (Ev.const (impl_HeadOk_eq n s)) (Ev.neg h (Ev.now _))
end Go.Proofs.YtnlndmoecljicaaGreat.Q
end
section
namespace Go.Proofs.YtnlndmoecljicaaGreat.Q
open Go.RowKit Go.Proofs.YtnlndmoecljicaaGreatW.PrintWords Go.Proofs.YtnlndmoecljicaaGreatW.PrintLast Go.Proofs.YtnlndmoecljicaaGreatW.PrintMore
attribute [local go_sem] max2_int min2_int max_two min_two max_three min_three max_four min_four   -- for this text's walks alone
set_option linter.unusedVariables false
set_option linter.unusedSimpArgs false
def bytes_Equal.f (l0 : List Int) (l1 : List Int) : Option (Bool) := some ((strOfNums l0).toList == (strOfNums l1).toList)
set_option maxHeartbeats 8000000 in
set_option maxRecDepth 100000 in
theorem bytes_Equal.calls (A0 : Option Addr) (c0 : Nat) (l0 : List Int) (A1 : Option Addr) (c1 : Nat) (l1 : List Int) (r : Bool) (w : World) (hr0 : Kd.C (Kd.int .u8) w A0 l0.length l0) (hc0 : l0.length ≤ c0) (hr1 : Kd.C (Kd.int .u8) w A1 l1.length l1) (hc1 : l1.length ≤ c1) (h : bytes_Equal.f l0 l1 = some r) :
  Calls Tryz.prog 101 #[.slice A0 l0.length c0, .slice A1 l1.length c1] w fun e w' => e = .returned (.bool r) ∧ Drawn0 w w' := by
 have HR0 := Aside0.mk hr0
 have HC0 := Aside0.mk hc0
 clear hr0 hc0
 have HR1 := Aside0.mk hr1
 have HC1 := Aside0.mk hc1
 clear hr1 hc1
 have H : (some ((strOfNums l0).toList == (strOfNums l1).toList)) = some r := h
 clear h
 obtain rfl := Option.some.inj H
 have hcv3 := Kd.C_string (P := Tryz.prog) (A := A0) (c := c0) Tryz.underlying27 Tryz.underlying5 Tryz.underlying9 HR0.out
 have hcv4 := Kd.C_string (P := Tryz.prog) (A := A1) (c := c1) Tryz.underlying27 Tryz.underlying5 Tryz.underlying9 HR1.out
 go_enter Tryz.func101, Tryz.ntmps101
 go_wp2
 go_ret
 exact ⟨e1_, dw_⟩
def impl_GetCommit.j0 : Nat → List Int → Int → Int → Int → Bool → Option (Int × ByteArray × List ByteArray × Int × Bool)
 | 0, _, _, _, _, _ => none
 | k + 1, x0, x1, x8, x9, x32 => if x32 = true then (some (0, (⟨#[]⟩ : ByteArray), ([] : List ByteArray), x1, false)) else (if 0 ≤ x9 then (if x9 ≤ (wrap64 (x9 + x8)) then (if (wrap64 (x9 + x8)) ≤ (x0.length : Int) then ((impl_getter_num.f k ((x0.take ((wrap64 (x9 + x8)) : Int).toNat).drop (x9 : Int).toNat) 0 false).bind fun bt607 => ((impl_getter_text.f k ((x0.take ((wrap64 (x9 + x8)) : Int).toNat).drop (x9 : Int).toNat) bt607.2.1 bt607.2.2).bind fun bt611 => ((impl_getter_texts.f k ((x0.take ((wrap64 (x9 + x8)) : Int).toNat).drop (x9 : Int).toNat) bt611.2.1 bt611.2.2).bind fun bt614 => (if bt614.2.2 = true then (some (0, (⟨#[]⟩ : ByteArray), ([] : List ByteArray), x1, false)) else ((impl_PutCommit.f k bt607.1 bt611.1 bt614.1).bind fun t619 => (if 0 ≤ x1 then (if x1 ≤ (wrap64 ((wrap64 (x9 + x8)) + 4)) then (if (wrap64 ((wrap64 (x9 + x8)) + 4)) ≤ (x0.length : Int) then ((bytes_Equal.f t619 ((x0.take ((wrap64 ((wrap64 (x9 + x8)) + 4)) : Int).toNat).drop (x1 : Int).toNat)).bind fun t623 => (if t623 = true then (some (bt607.1, bt611.1, bt614.1, wrap64 ((wrap64 (x9 + x8)) + 4), true)) else (some (0, (⟨#[]⟩ : ByteArray), ([] : List ByteArray), x1, false)))) else (none)) else (none)) else (none))))))) else (none)) else (none)) else (none))
def impl_GetCommit.f (k : Nat) (l0 : List Int) (a1 : Int) : Option (Int × ByteArray × List ByteArray × Int × Bool) := (impl_GetNum.f k l0 a1).bind fun bt602 => (if bt602.2.2 = true then (impl_GetCommit.j0 k l0 a1 bt602.1 bt602.2.1 (decide (bt602.1 > (wrap64 ((wrap64 ((l0.length : Int) - bt602.2.1)) - 4))))) else (impl_GetCommit.j0 k l0 a1 bt602.1 bt602.2.1 true))
def impl_GetCommit.T9 : Bool × List (List Nat × List Nat) := (true, [([], []), ([0], [0]), ([1], [1]), ([2], [2]), ([2], [2]), ([3, 4, 2, 2], [2, 3, 4]), ([2], [2]), ([2], [2]), ([2], [2]), ([6, 7, 8, 2], [2, 6, 7, 8]), ([5, 9, 5, 2], [2, 5, 9]), ([10, 2], [2, 10]), ([2, 11], [2, 11])])
def impl_GetCommit.B9 : List Nat := [0, 1, 3, 7, 7, 31, 7, 7, 7, 455, 1023, 2047, 4095]
theorem impl_GetCommit.tab9 : rtab .any (opsOf Tryz.f64 9) = impl_GetCommit.T9 := by kernel_rfl
theorem impl_GetCommit.bits9 : waitsOk impl_GetCommit.T9.2 impl_GetCommit.B9 = true := by kernel_rfl
set_option maxHeartbeats 8000000 in
set_option maxRecDepth 100000 in
theorem impl_GetCommit.calls (k : Nat) (A0 : Option Addr) (c0 : Nat) (l0 : List Int) (a1 : Int) (r1 : Int) (r2 : ByteArray) (r3 : List ByteArray) (r4 : Int) (r5 : Bool) (w : World) (hr0 : Kd.C (Kd.int .u8) w A0 l0.length l0) (hc0 : l0.length ≤ c0) (h : impl_GetCommit.f k l0 a1 = some (r1, r2, r3, r4, r5)) :
  Calls Tryz.prog 64 #[.slice A0 l0.length c0, .int .i64 a1] w fun e w' => ∃ v2_ : Value, e = .returned (.tuple #[.agg #[.int .i64 r1, .string r2], v2_, .int .i64 r4, .bool r5]) ∧ Kd.R Kd.string 9 w' w.heap.size (fun _ => True) v2_ r3 ∧ Below w.heap.size w w' := by
 have hu37 := Tryz.underlying37
 have hu116 := Tryz.underlying116
 have HR0 := Aside0.mk hr0
 have HC0 := Aside0.mk hc0
 clear hr0 hc0
 have HB := Aside0.mk (Below.refl w.heap.size w)
 have H : ((impl_GetNum.f k l0 a1).bind fun bt602 => (if bt602.2.2 = true then (impl_GetCommit.j0 k l0 a1 bt602.1 bt602.2.1 (decide (bt602.1 > (wrap64 ((wrap64 ((l0.length : Int) - bt602.2.1)) - 4))))) else (impl_GetCommit.j0 k l0 a1 bt602.1 bt602.2.1 true))) = some (r1, r2, r3, r4, r5) := h
 clear h
 replace H := bi_ H; obtain ⟨⟨t602, t603, t604⟩, A3, H⟩ := H
 dsimp only at H
 have HC4 := Aside0.mk H
 clear H
 go_enter Tryz.func64, Tryz.ntmps64
 go_upto_region 2 with (first | ((with_reducible refine gd_ 4 ?_); (try (refine gate_guard (by rfl) ?_; dsimp only)); refine bx_ 4 37 #[.int .i64 0, .string (⟨#[]⟩ : ByteArray)] ?_; intro gb601 hg w5 hbox hb; have BK601 := Aside0.mk hbox; have GW601 := gg_ hg HB; have GE601 := GW601; replace HB := ss_ HB hb; clear hb hbox hg) | ((with_reducible refine gq_ 97 18 ?_); refine gc_ 18 Tryz.func97 (impl_GetNum.calls k _ _ l0 a1 t602 t603 t604 _ (cb_ HR0 HB) HC0.out A3.out) ?_; rintro e w' ⟨rfl, ⟨nd, rfl⟩⟩; refine ⟨_, rfl, ?_⟩))
 (try simp only [Act.put, List.setIfInBounds_toArray, List.set_cons_zero, List.set_cons_succ])
 go_cut [32] (fun v32 wc => ∃ (kq : Nat) (x32_3 : Bool), v32 = .bool x32_3 ∧ Aside0 (impl_GetCommit.j0 kq l0 a1 t602 t603 x32_3 = some (r1, r2, r3, r4, r5)) ∧ Aside0 (kq ≤ k) ∧ Aside0 (wc.heap[gb601]? = some (.cells #[.int .i64 0, .string (⟨#[]⟩ : ByteArray)] 37 (0, 0))) ∧ Aside0 (Below w.heap.size w wc))
 case first =>
  have H := HC4.out
  clear HC4
  replace H := itb_ H; obtain ⟨rfl, H⟩ | ⟨rfl, H⟩ := H
  ·have H' := Aside0.mk H
   clear H
   go_wp2
   go_meet
   case rel => exact ⟨_, (decide (t602 > (wrap64 ((wrap64 ((l0.length : Int) - t603)) - 4)))), e1_, H', ⟨le_⟩, ⟨kb_ BK601.out⟩, ⟨bw_ HB⟩⟩
  ·have H' := Aside0.mk H
   clear H
   go_wp2
   go_meet
   case rel => exact ⟨_, (true), e1_, H', ⟨le_⟩, ⟨kb_ BK601.out⟩, ⟨bw_ HB⟩⟩
 case rest =>
  clear HC4
  obtain ⟨kq, x32_3, rfl, HA, HJ3, BK601, HB⟩ := hcut
  cases kq with
  | zero => exact absurd HA.out (by simp [impl_GetCommit.j0])
  | succ kj3 =>
   have H := HA.out
   clear HA
   simp only [impl_GetCommit.j0] at H
   replace H := itb_ H; obtain ⟨rfl, H⟩ | ⟨rfl, H⟩ := H
   ·replace H := so5_ H; obtain ⟨rfl, rfl, rfl, rfl, rfl⟩ := H
    have hz8 := cz2_ BK601
    go_wp2
    refine bodyPost_ret (results_list (rs := [.cell 4 37, .tmp 5, .tmp 6, .tmp 7]) rfl (by simp) (.cell gb601 37 #[.int .i64 0, .string (⟨#[]⟩ : ByteArray)] (0, 0) _ rfl (by exact kq_ BK601) Tryz.underlying37 rfl (by kernel_rfl) (.tmp (.tmp (.tmp .nil))))) rfl ?_
    exact ⟨_, e2_, by first | exact Kd.R_nil _ _ _ _ _ | exact Kd.N_nil _ _ _ _ _ | exact Kd.V_nil _ _ _ _ _ | exact Kd.Q_nil _ _ _ _ _ | exact Kd.S_nil _ _ _ _ _, bw_ HB⟩
   ·replace H := ip_ H; obtain ⟨c9, H⟩ := H
    have c9b0 := eq_true c9
    have c9b1 := decide_eq_true c9
    clear c9
    replace H := ip_ H; obtain ⟨c10, H⟩ := H
    have c10b0 := eq_true c10
    have c10b1 := decide_eq_true c10
    replace H := ip_ H; obtain ⟨c11, H⟩ := H
    have c11b0 := eq_true c11
    have c11b1 := decide_eq_true c11
    replace H := bi_ H; obtain ⟨⟨t607, t608, t609⟩, A12, H⟩ := H
    dsimp only at H
    replace H := bi_ H; obtain ⟨⟨t611, t612, t613⟩, A13, H⟩ := H
    dsimp only at H
    replace H := bi_ H; obtain ⟨⟨t614, t617, t618⟩, A14, H⟩ := H
    dsimp only at H
    replace H := itb_ H; obtain ⟨rfl, H⟩ | ⟨rfl, H⟩ := H
    ·replace H := so5_ H; obtain ⟨rfl, rfl, rfl, rfl, rfl⟩ := H
     obtain ⟨i016, hi016, _, hsz16, _⟩ := info_parts info5
     obtain ⟨A16, hcut16, hA16, hC16⟩ := print_mid_of (P := Tryz.prog) (Value.int .u8) 0 27 5 .i64 .i64 Tryz.underlying27 hi016 hsz16 A0 c0 l0 t603 (wrap64 (t603 + t602)) (of_decide_eq_true as_) (by first | omega | exact of_decide_eq_true as_) (of_decide_eq_true as_) HC0.out
     have HR605 := Aside0.mk (Kd.C_of_reads (h1 := fun _ => rfl) (hA16 _ (Kd.reads_of_C HR0.out)))
     have HC605 := Aside0.mk hC16
     clear hA16 hC16 hi016 hsz16
     try go_wp2_with (first | ((with_reducible refine gd_ 12 ?_); (try (refine gate_guard (by rfl) ?_; dsimp only)); refine bx_ 12 116 #[.slice none 0 0, .int .i64 0, .bool false] ?_; intro gb606 hg w17 hbox hb; have BK606 := Aside0.mk hbox; have GW606 := gg_ hg HB; have GE606 := GW606; replace HB := ss_ HB hb; have NB601_606 := nla_ hg BK601; have NB606_601 := nga_ hg BK601; replace BK601 := kl_ BK601 hb; clear hb hbox hg; have hnb18 := NB606_601.out; have hnc18 := NB601_606.out; have hz19 := cz3_ BK606) | ((with_reducible refine gk_ 98 ?_); refine gl_ 46 Tryz.func98 #[.pointer (some ⟨gb606, 0, none⟩)] ?_; refine IsS116.called (w0 := w) (g := gb606) (f0 := (l0.take ((wrap64 (t603 + t602)) : Int).toNat).drop (t603 : Int).toNat) (f1 := 0) (f2 := false) ⟨_, _, by (rw [show ((l0.take ((wrap64 (t603 + t602)) : Int).toNat).drop (t603 : Int).toNat).length = ((wrap64 (t603 + t602)).toNat - t603.toNat) from (by rw [List.length_drop, List.length_take]; have h_ : ((wrap64 (t603 + t602)) : Int) ≤ (l0.length : Int) := of_decide_eq_true as_; omega)]); refine kb_ ?_; refine blk_put (cs := #[.slice A16 ((wrap64 (t603 + t602)).toNat - t603.toNat) (c0 - t603.toNat), .int .i64 0, .bool false]) ?_ 2 _ rfl; refine kb_ ?_; refine blk_put (cs := #[.slice A16 ((wrap64 (t603 + t602)).toNat - t603.toNat) (c0 - t603.toNat), .int .i64 0, .bool false]) ?_ 1 _ rfl; refine kb_ ?_; refine blk_put (cs := #[.slice none 0 0, .int .i64 0, .bool false]) ?_ 0 _ rfl; refine kb_ ?_; exact BK606.out, GW606.out, HR605.out, HC605.out⟩ (fun HI606 => ?_); (with_reducible refine (impl_getter_num.calls kj3 gb606 ((l0.take ((wrap64 (t603 + t602)) : Int).toNat).drop (t603 : Int).toNat) 0 false t607 t608 t609 w _ ?side1 ?side2 A12.out).mono ?_); (case side1 => exact in116_ HI606); (case side2 => exact bi116_ HB); rintro e w20 ⟨rfl, hi, hb, hk⟩; refine ⟨_, rfl, ?_⟩; replace BK601 := Aside0.mk (KeepBut.blk hk (g' := gb601) (o := .cells #[.int .i64 0, .string (⟨#[]⟩ : ByteArray)] 37 (0, 0)) (kq_ BK601) NB601_606.out (by simp)); replace HB := Aside0.mk hb; replace HI606 := Aside0.mk hi; clear hb hk hi) | ((with_reducible refine gd_ 13 ?_); (try (refine gate_guard (by rfl) ?_; dsimp only)); refine bx_ 13 37 #[.int .i64 0, .string (⟨#[]⟩ : ByteArray)] ?_; intro gb610 hg w21 hbox hb; have BK610 := Aside0.mk hbox; have GW610 := Aside0.mk (gz_ hg (below_size (bs2_ HB (IsS116.ge HI606.out) GE601.out))); have GE610 := Aside0.mk (gz_ hg (below_size (bs2_ HB (IsS116.ge HI606.out) GE601.out))); replace HB := Aside0.mk (below_step (bs2_ HB (IsS116.ge HI606.out) GE601.out) hb); have NB601_610 := nla_ hg BK601; have NB610_601 := nga_ hg BK601; replace BK601 := kl_ BK601 hb; have NB606_610 := Aside0.mk ((by rw [hg]; exact Nat.ne_of_lt (IsS116.lt (show IsS116 w _ gb606 ((l0.take ((wrap64 (t603 + t602)) : Int).toNat).drop (t603 : Int).toNat) t608 t609 from in116_ HI606)) : gb606 ≠ gb610)); have NB610_606 := Aside0.mk ((by rw [hg]; exact Nat.ne_of_gt (IsS116.lt (show IsS116 w _ gb606 ((l0.take ((wrap64 (t603 + t602)) : Int).toNat).drop (t603 : Int).toNat) t608 t609 from in116_ HI606)) : gb610 ≠ gb606)); replace HI606 := Aside0.mk (IsS116.below (in116_ HI606) hb); clear hb hbox hg; have hnb22 := NB610_601.out; have hnc22 := NB601_610.out; have hnb23 := NB610_606.out; have hnc23 := NB606_610.out; have hz24 := cz2_ BK610) | ((with_reducible refine gq_ 99 48 ?_); refine gc_ 48 Tryz.func99 (impl_getter_text.calls kj3 gb606 ((l0.take ((wrap64 (t603 + t602)) : Int).toNat).drop (t603 : Int).toNat) t608 t609 t611 t612 t613 w _ (in116_ HI606) (bi116_ HB) A13.out) ?_; rintro e w25 ⟨rfl, hi, hb, hk⟩; refine ⟨_, rfl, ?_⟩; replace BK601 := Aside0.mk (KeepBut.blk hk (g' := gb601) (o := .cells #[.int .i64 0, .string (⟨#[]⟩ : ByteArray)] 37 (0, 0)) (kq_ BK601) NB601_606.out (by simp)); replace BK610 := Aside0.mk (KeepBut.blk hk (g' := gb610) (o := .cells #[.int .i64 t607, .string (⟨#[]⟩ : ByteArray)] 37 (0, 0)) (kq_ BK610) NB610_606.out (by simp)); replace HB := Aside0.mk hb; replace HI606 := Aside0.mk hi; clear hb hk hi; have hz26 := cz2_ BK610) | ((with_reducible refine gq_ 100 50 ?_); refine gc_ 50 Tryz.func100 (impl_getter_texts.calls kj3 gb606 ((l0.take ((wrap64 (t603 + t602)) : Int).toNat).drop (t603 : Int).toNat) t612 t613 t614 t617 true w _ (in116_ HI606) (bi116_ HB) A14.out) ?_; rintro e w27 ⟨v615, rfl, ho0, hi, hb, hk⟩; refine ⟨_, rfl, ?_⟩; replace BK601 := Aside0.mk (KeepBut.blk hk (g' := gb601) (o := .cells #[.int .i64 0, .string (⟨#[]⟩ : ByteArray)] 37 (0, 0)) (kq_ BK601) NB601_606.out (by simp)); replace BK610 := Aside0.mk (KeepBut.blk hk (g' := gb610) (o := .cells #[.int .i64 t607, .string t611] 37 (0, 0)) (kq_ BK610) NB610_606.out (by simp)); have HO616 := Aside0.mk (Kd.R_lower ho0 (below_size (bs3_ HB (IsS116.ge HI606.out) GE601.out GE610.out))); replace HB := Aside0.mk hb; replace HI606 := Aside0.mk hi; clear hb hk hi ho0))
     obtain ⟨Aq28_0, cq28_0, hb_, hg_, hrq28_0, hqq28_0⟩ := HI606.out
     have BK606 := Aside0.mk hb_
     have HRq28_0 := Aside0.mk hrq28_0
     have HCq28_0 := Aside0.mk hqq28_0
     clear hb_ hg_ hrq28_0 hqq28_0 HI606
     replace HO616 := Aside0.mk (Kd.R_drew HO616.out)
     replace BK601 := Aside0.mk (blk_drew BK601.out)
     replace BK606 := Aside0.mk (blk_drew BK606.out)
     replace BK610 := Aside0.mk (blk_drew BK610.out)
     replace HB := Aside0.mk (below_drew1 HB.out)
     refine start_ (n := 13) (S := fun w' => w'.cell? ⟨gb606, 0, none⟩ = some (.slice Aq28_0 ((l0.take ((wrap64 (t603 + t602)) : Int).toNat).drop (t603 : Int).toNat).length cq28_0) ∧ w'.cell? ⟨gb606, 1, none⟩ = some (.int .i64 t617) ∧ w'.cell? ⟨gb606, 2, none⟩ = some (.bool true)) (ds := []) (lz_ 13 0) (by kernel_rfl) rfl rfl ⟨bc0_ BK606.out, bc1_ BK606.out, bc2_ BK606.out⟩ (fun hHeld => ?_); refine with_tabW impl_GetCommit.tab9 impl_GetCommit.bits9 (fun HT_ HW_ => ?_)
     generalize w27.drew = w29 at HO616 BK601 BK606 BK610 HB hHeld ⊢
     refine pt_ 0 51 1 ?_
     refine tt_ 1 52 3 ?_
     refine pt_ 2 53 7 ?_
     refine ut_ 3 54 15 ?_
     refine ut_ 4 55 31 ?_
     refine ut_ 5 56 63 ?_
     refine ut_ 6 57 127 ?_
     refine ut_ 7 58 255 ?_
     refine ut_ 8 59 511 ?_
     refine ut_ 9 60 1023 ?_
     refine ut_ 10 61 2047 ?_
     refine ut_ 11 62 4095 ?_
     refine pt_ 12 63 8191 ?_
     refine done_ (done_of HT_.out (by kernel_rfl)) ?_
     have hz30 := cz2_ BK601
     try go_wp2
     refine bodyPost_ret (results_list (rs := [.cell 4 37, .tmp 5, .tmp 6, .tmp 7]) rfl (by simp) (.cell gb601 37 #[.int .i64 0, .string (⟨#[]⟩ : ByteArray)] (0, 0) _ rfl (by exact kq_ BK601) Tryz.underlying37 rfl (by kernel_rfl) (.tmp (.tmp (.tmp .nil))))) rfl ?_
     exact ⟨_, e2_, by first | exact Kd.R_nil _ _ _ _ _ | exact Kd.N_nil _ _ _ _ _ | exact Kd.V_nil _ _ _ _ _ | exact Kd.Q_nil _ _ _ _ _ | exact Kd.S_nil _ _ _ _ _, bw_ HB⟩
    ·replace H := bi_ H; obtain ⟨t619, A31, H⟩ := H
     replace H := ip_ H; obtain ⟨c32, H⟩ := H
     have c32b0 := eq_true c32
     have c32b1 := decide_eq_true c32
     clear c32
     replace H := ip_ H; obtain ⟨c33, H⟩ := H
     have c33b0 := eq_true c33
     have c33b1 := decide_eq_true c33
     replace H := ip_ H; obtain ⟨c34, H⟩ := H
     have c34b0 := eq_true c34
     have c34b1 := decide_eq_true c34
     replace H := bi_ H; obtain ⟨t623, A35, H⟩ := H
     replace H := itb_ H; obtain ⟨rfl, H⟩ | ⟨rfl, H⟩ := H
     ·replace H := so5_ H; obtain ⟨rfl, rfl, rfl, rfl, rfl⟩ := H
      obtain ⟨i037, hi037, _, hsz37, _⟩ := info_parts info5
      obtain ⟨A37, hcut37, hA37, hC37⟩ := print_mid_of (P := Tryz.prog) (Value.int .u8) 0 27 5 .i64 .i64 Tryz.underlying27 hi037 hsz37 A0 c0 l0 t603 (wrap64 (t603 + t602)) (of_decide_eq_true as_) (by first | omega | exact of_decide_eq_true as_) (of_decide_eq_true as_) HC0.out
      have HR605 := Aside0.mk (Kd.C_of_reads (h1 := fun _ => rfl) (hA37 _ (Kd.reads_of_C HR0.out)))
      have HC605 := Aside0.mk hC37
      clear hA37 hC37 hi037 hsz37
      try go_wp2_with (first | ((with_reducible refine gd_ 12 ?_); (try (refine gate_guard (by rfl) ?_; dsimp only)); refine bx_ 12 116 #[.slice none 0 0, .int .i64 0, .bool false] ?_; intro gb606 hg w38 hbox hb; have BK606 := Aside0.mk hbox; have GW606 := gg_ hg HB; have GE606 := GW606; replace HB := ss_ HB hb; have NB601_606 := nla_ hg BK601; have NB606_601 := nga_ hg BK601; replace BK601 := kl_ BK601 hb; clear hb hbox hg; have hnb39 := NB606_601.out; have hnc39 := NB601_606.out; have hz40 := cz3_ BK606) | ((with_reducible refine gk_ 98 ?_); refine gl_ 46 Tryz.func98 #[.pointer (some ⟨gb606, 0, none⟩)] ?_; refine IsS116.called (w0 := w) (g := gb606) (f0 := (l0.take ((wrap64 (t603 + t602)) : Int).toNat).drop (t603 : Int).toNat) (f1 := 0) (f2 := false) ⟨_, _, by (rw [show ((l0.take ((wrap64 (t603 + t602)) : Int).toNat).drop (t603 : Int).toNat).length = ((wrap64 (t603 + t602)).toNat - t603.toNat) from (by rw [List.length_drop, List.length_take]; have h_ : ((wrap64 (t603 + t602)) : Int) ≤ (l0.length : Int) := of_decide_eq_true as_; omega)]); refine kb_ ?_; refine blk_put (cs := #[.slice A37 ((wrap64 (t603 + t602)).toNat - t603.toNat) (c0 - t603.toNat), .int .i64 0, .bool false]) ?_ 2 _ rfl; refine kb_ ?_; refine blk_put (cs := #[.slice A37 ((wrap64 (t603 + t602)).toNat - t603.toNat) (c0 - t603.toNat), .int .i64 0, .bool false]) ?_ 1 _ rfl; refine kb_ ?_; refine blk_put (cs := #[.slice none 0 0, .int .i64 0, .bool false]) ?_ 0 _ rfl; refine kb_ ?_; exact BK606.out, GW606.out, HR605.out, HC605.out⟩ (fun HI606 => ?_); (with_reducible refine (impl_getter_num.calls kj3 gb606 ((l0.take ((wrap64 (t603 + t602)) : Int).toNat).drop (t603 : Int).toNat) 0 false t607 t608 t609 w _ ?side1 ?side2 A12.out).mono ?_); (case side1 => exact in116_ HI606); (case side2 => exact bi116_ HB); rintro e w41 ⟨rfl, hi, hb, hk⟩; refine ⟨_, rfl, ?_⟩; replace BK601 := Aside0.mk (KeepBut.blk hk (g' := gb601) (o := .cells #[.int .i64 0, .string (⟨#[]⟩ : ByteArray)] 37 (0, 0)) (kq_ BK601) NB601_606.out (by simp)); replace HB := Aside0.mk hb; replace HI606 := Aside0.mk hi; clear hb hk hi) | ((with_reducible refine gd_ 13 ?_); (try (refine gate_guard (by rfl) ?_; dsimp only)); refine bx_ 13 37 #[.int .i64 0, .string (⟨#[]⟩ : ByteArray)] ?_; intro gb610 hg w42 hbox hb; have BK610 := Aside0.mk hbox; have GW610 := Aside0.mk (gz_ hg (below_size (bs2_ HB (IsS116.ge HI606.out) GE601.out))); have GE610 := Aside0.mk (gz_ hg (below_size (bs2_ HB (IsS116.ge HI606.out) GE601.out))); replace HB := Aside0.mk (below_step (bs2_ HB (IsS116.ge HI606.out) GE601.out) hb); have NB601_610 := nla_ hg BK601; have NB610_601 := nga_ hg BK601; replace BK601 := kl_ BK601 hb; have NB606_610 := Aside0.mk ((by rw [hg]; exact Nat.ne_of_lt (IsS116.lt (show IsS116 w _ gb606 ((l0.take ((wrap64 (t603 + t602)) : Int).toNat).drop (t603 : Int).toNat) t608 t609 from in116_ HI606)) : gb606 ≠ gb610)); have NB610_606 := Aside0.mk ((by rw [hg]; exact Nat.ne_of_gt (IsS116.lt (show IsS116 w _ gb606 ((l0.take ((wrap64 (t603 + t602)) : Int).toNat).drop (t603 : Int).toNat) t608 t609 from in116_ HI606)) : gb610 ≠ gb606)); replace HI606 := Aside0.mk (IsS116.below (in116_ HI606) hb); clear hb hbox hg; have hnb43 := NB610_601.out; have hnc43 := NB601_610.out; have hnb44 := NB610_606.out; have hnc44 := NB606_610.out; have hz45 := cz2_ BK610) | ((with_reducible refine gq_ 99 48 ?_); refine gc_ 48 Tryz.func99 (impl_getter_text.calls kj3 gb606 ((l0.take ((wrap64 (t603 + t602)) : Int).toNat).drop (t603 : Int).toNat) t608 t609 t611 t612 t613 w _ (in116_ HI606) (bi116_ HB) A13.out) ?_; rintro e w46 ⟨rfl, hi, hb, hk⟩; refine ⟨_, rfl, ?_⟩; replace BK601 := Aside0.mk (KeepBut.blk hk (g' := gb601) (o := .cells #[.int .i64 0, .string (⟨#[]⟩ : ByteArray)] 37 (0, 0)) (kq_ BK601) NB601_606.out (by simp)); replace BK610 := Aside0.mk (KeepBut.blk hk (g' := gb610) (o := .cells #[.int .i64 t607, .string (⟨#[]⟩ : ByteArray)] 37 (0, 0)) (kq_ BK610) NB610_606.out (by simp)); replace HB := Aside0.mk hb; replace HI606 := Aside0.mk hi; clear hb hk hi; have hz47 := cz2_ BK610) | ((with_reducible refine gq_ 100 50 ?_); refine gc_ 50 Tryz.func100 (impl_getter_texts.calls kj3 gb606 ((l0.take ((wrap64 (t603 + t602)) : Int).toNat).drop (t603 : Int).toNat) t612 t613 t614 t617 false w _ (in116_ HI606) (bi116_ HB) A14.out) ?_; rintro e w48 ⟨v615, rfl, ho0, hi, hb, hk⟩; refine ⟨_, rfl, ?_⟩; replace BK601 := Aside0.mk (KeepBut.blk hk (g' := gb601) (o := .cells #[.int .i64 0, .string (⟨#[]⟩ : ByteArray)] 37 (0, 0)) (kq_ BK601) NB601_606.out (by simp)); replace BK610 := Aside0.mk (KeepBut.blk hk (g' := gb610) (o := .cells #[.int .i64 t607, .string t611] 37 (0, 0)) (kq_ BK610) NB610_606.out (by simp)); have HO616 := Aside0.mk (Kd.R_lower ho0 (below_size (bs3_ HB (IsS116.ge HI606.out) GE601.out GE610.out))); replace HB := Aside0.mk hb; replace HI606 := Aside0.mk hi; clear hb hk hi ho0))
      obtain ⟨Aq49_0, cq49_0, hb_, hg_, hrq49_0, hqq49_0⟩ := HI606.out
      have BK606 := Aside0.mk hb_
      have HRq49_0 := Aside0.mk hrq49_0
      have HCq49_0 := Aside0.mk hqq49_0
      clear hb_ hg_ hrq49_0 hqq49_0 HI606
      replace HO616 := Aside0.mk (Kd.R_drew HO616.out)
      replace BK601 := Aside0.mk (blk_drew BK601.out)
      replace BK606 := Aside0.mk (blk_drew BK606.out)
      replace BK610 := Aside0.mk (blk_drew BK610.out)
      replace HB := Aside0.mk (below_drew1 HB.out)
      obtain ⟨i051, hi051, _, hsz51, _⟩ := info_parts info5
      obtain ⟨A51, hcut51, hA51, hC51⟩ := print_mid_of (P := Tryz.prog) (Value.int .u8) 0 27 5 .i64 .i64 Tryz.underlying27 hi051 hsz51 A0 c0 l0 a1 (wrap64 ((wrap64 (t603 + t602)) + 4)) (of_decide_eq_true as_) (by first | omega | exact of_decide_eq_true as_) (of_decide_eq_true as_) HC0.out
      have HR622 := Aside0.mk (Kd.C_of_reads (h1 := fun _ => rfl) (hA51 _ (Kd.reads_of_C HR0.out)))
      have HC622 := Aside0.mk hC51
      clear hA51 hC51 hi051 hsz51
      obtain ⟨Ao52, co52, eo52⟩ := Kd.R_slice HO616.out
      (first | subst eo52 | (injection eo52 with f1_ f2_ f3_; have f4_ := f1_.symm; have f5_ := f3_.symm; clear f1_ f2_ f3_; subst f4_; subst f5_))
      refine start_ (n := 13) (S := fun w' => w'.cell? ⟨gb606, 0, none⟩ = some (.slice Aq49_0 ((l0.take ((wrap64 (t603 + t602)) : Int).toNat).drop (t603 : Int).toNat).length cq49_0) ∧ w'.cell? ⟨gb606, 1, none⟩ = some (.int .i64 t617) ∧ w'.cell? ⟨gb606, 2, none⟩ = some (.bool false) ∧ w'.cell? ⟨gb610, 0, none⟩ = some (.int .i64 t607) ∧ w'.cell? ⟨gb610, 1, none⟩ = some (.string t611)) (ds := []) (lz_ 13 0) (by kernel_rfl) rfl rfl ⟨bc0_ BK606.out, bc1_ BK606.out, bc2_ BK606.out, bc0_ BK610.out, bc1_ BK610.out⟩ (fun hHeld => ?_); refine with_tabW impl_GetCommit.tab9 impl_GetCommit.bits9 (fun HT_ HW_ => ?_)
      generalize w48.drew = w50 at HO616 BK601 BK606 BK610 HB HR622 hHeld ⊢
      refine pt_ 0 51 1 ?_
      refine tt_ 1 52 3 ?_
      refine pt_ 2 53 7 ?_
      refine pt_ 4 55 23 ?_
      refine pt_ 6 57 87 ?_
      refine pt_ 7 58 215 ?_
      refine pt_ 8 59 471 ?_
      refine pt_ 9 60 983 ?_
      refine tt_ 3 54 991 ?_
      refine one_ (i := 5) (N := some 56) (lz_ 13 1023) rfl rfl (one_of HT_.out (by kernel_rfl)) (by decide) (fun K hK => ?_)
      refine gf_ Tryz.func102 (impl_PutCommit.calls kj3 t607 t611 _ _ t614 t619 _ (ch_ HO616) (cl_ HO616) A31.out) ?_
      rintro e w53 ⟨v620, rfl, ho0, hb⟩
      refine ⟨_, rfl, ?_⟩
      replace HO616 := rb_ HO616 hb
      have HO621 := Aside0.mk (Kd.R_lower ho0 (sz_ HB))
      replace BK601 := kl_ BK601 hb
      replace BK606 := kl_ BK606 hb
      replace BK610 := kl_ BK610 hb
      replace HB := ss_ HB hb
      clear hb ho0
      obtain ⟨Ao54, co54, eo54⟩ := Kd.R_slice HO621.out
      (first | subst eo54 | (injection eo54 with f1_ f2_ f3_; have f4_ := f1_.symm; have f5_ := f3_.symm; clear f1_ f2_ f3_; subst f4_; subst f5_))
      refine hK.out _ _ ⟨bc0_ BK606.out, bc1_ BK606.out, bc2_ BK606.out, bc0_ BK610.out, bc1_ BK610.out⟩ (fun hHeld => ?_)
      clear hK K
      refine no_ 56 ?_
      refine one_ (i := 10) (N := some 61) (lz_ 13 2047) rfl rfl (one_of HT_.out (by kernel_rfl)) (by decide) (fun K hK => ?_)
      refine goes_ Tryz.func101 (by kernel_rfl) rfl #[.slice Ao54 t619.length co54, .slice A51 ((l0.take ((wrap64 ((wrap64 (t603 + t602)) + 4)) : Int).toNat).drop (a1 : Int).toNat).length (c0 - a1.toNat)] (by rfl) rfl rfl (by (try simp only [List.map_toArray, List.map_cons, List.map_nil]); first | done | (rw [show ((l0.take ((wrap64 ((wrap64 (t603 + t602)) + 4)) : Int).toNat).drop (a1 : Int).toNat).length = ((wrap64 ((wrap64 (t603 + t602)) + 4)).toNat - a1.toNat) from (by rw [List.length_drop, List.length_take]; have h_ : ((wrap64 ((wrap64 (t603 + t602)) + 4)) : Int) ≤ (l0.length : Int) := of_decide_eq_true as_; omega)] <;> rfl) | rfl | (simp only [List.length_drop, List.length_take]; rfl)) ?_
      with_reducible refine (bytes_Equal.calls _ _ t619 _ _ ((l0.take ((wrap64 ((wrap64 (t603 + t602)) + 4)) : Int).toNat).drop (a1 : Int).toNat) true _ ?side1 ?side2 ?side3 ?side4 A35.out).mono ?_
      (case side1 => exact ch_ HO621)
      (case side2 => exact (cl_ HO621))
      (case side3 => exact cb_ HR622 HB)
      (case side4 => exact HC622.out)
      rintro e w' ⟨rfl, ⟨nd, rfl⟩⟩
      refine ⟨_, rfl, ?_⟩
      refine hK.out _ _ ⟨bc0_ BK606.out, bc1_ BK606.out, bc2_ BK606.out, bc0_ BK610.out, bc1_ BK610.out⟩ (fun hHeld => ?_)
      clear hK K
      refine no_ 61 ?_
      refine pt_ 11 62 4095 ?_
      refine pt_ 12 63 8191 ?_
      refine done_ (done_of HT_.out (by kernel_rfl)) ?_
      have hz55 := cz2_ BK610
      have hz56 := cz2_ BK601
      try go_wp2
      refine bodyPost_ret (results_list (rs := [.cell 4 37, .tmp 5, .tmp 6, .tmp 7]) rfl (by simp) (.cell gb601 37 #[.int .i64 t607, .string t611] (0, 0) _ rfl (by exact kq_ BK601) Tryz.underlying37 rfl (by kernel_rfl) (.tmp (.tmp (.tmp .nil))))) rfl ?_
      exact ⟨_, e2_, by (with_reducible repeat (first | apply Kd.R_alloc | apply Kd.R_drewN | apply Kd.R_drew)); exact Kd.R_mono (Kd.R_far (p := ⟨gb601, 1, none⟩) (Kd.R_far (p := ⟨gb601, 0, none⟩) (Kd.R_types HO616.out BK601.out (by decide)) (fun _ hk => hk.2) (.int .i64 t607)) (fun _ hk => hk.2) (.string t611)) (fun _ hk => trivial), bw_ HB⟩
     ·replace H := so5_ H; obtain ⟨rfl, rfl, rfl, rfl, rfl⟩ := H
      obtain ⟨i057, hi057, _, hsz57, _⟩ := info_parts info5
      obtain ⟨A57, hcut57, hA57, hC57⟩ := print_mid_of (P := Tryz.prog) (Value.int .u8) 0 27 5 .i64 .i64 Tryz.underlying27 hi057 hsz57 A0 c0 l0 t603 (wrap64 (t603 + t602)) (of_decide_eq_true as_) (by first | omega | exact of_decide_eq_true as_) (of_decide_eq_true as_) HC0.out
      have HR605 := Aside0.mk (Kd.C_of_reads (h1 := fun _ => rfl) (hA57 _ (Kd.reads_of_C HR0.out)))
      have HC605 := Aside0.mk hC57
      clear hA57 hC57 hi057 hsz57
      try go_wp2_with (first | ((with_reducible refine gd_ 12 ?_); (try (refine gate_guard (by rfl) ?_; dsimp only)); refine bx_ 12 116 #[.slice none 0 0, .int .i64 0, .bool false] ?_; intro gb606 hg w58 hbox hb; have BK606 := Aside0.mk hbox; have GW606 := gg_ hg HB; have GE606 := GW606; replace HB := ss_ HB hb; have NB601_606 := nla_ hg BK601; have NB606_601 := nga_ hg BK601; replace BK601 := kl_ BK601 hb; clear hb hbox hg; have hnb59 := NB606_601.out; have hnc59 := NB601_606.out; have hz60 := cz3_ BK606) | ((with_reducible refine gk_ 98 ?_); refine gl_ 46 Tryz.func98 #[.pointer (some ⟨gb606, 0, none⟩)] ?_; refine IsS116.called (w0 := w) (g := gb606) (f0 := (l0.take ((wrap64 (t603 + t602)) : Int).toNat).drop (t603 : Int).toNat) (f1 := 0) (f2 := false) ⟨_, _, by (rw [show ((l0.take ((wrap64 (t603 + t602)) : Int).toNat).drop (t603 : Int).toNat).length = ((wrap64 (t603 + t602)).toNat - t603.toNat) from (by rw [List.length_drop, List.length_take]; have h_ : ((wrap64 (t603 + t602)) : Int) ≤ (l0.length : Int) := of_decide_eq_true as_; omega)]); refine kb_ ?_; refine blk_put (cs := #[.slice A57 ((wrap64 (t603 + t602)).toNat - t603.toNat) (c0 - t603.toNat), .int .i64 0, .bool false]) ?_ 2 _ rfl; refine kb_ ?_; refine blk_put (cs := #[.slice A57 ((wrap64 (t603 + t602)).toNat - t603.toNat) (c0 - t603.toNat), .int .i64 0, .bool false]) ?_ 1 _ rfl; refine kb_ ?_; refine blk_put (cs := #[.slice none 0 0, .int .i64 0, .bool false]) ?_ 0 _ rfl; refine kb_ ?_; exact BK606.out, GW606.out, HR605.out, HC605.out⟩ (fun HI606 => ?_); (with_reducible refine (impl_getter_num.calls kj3 gb606 ((l0.take ((wrap64 (t603 + t602)) : Int).toNat).drop (t603 : Int).toNat) 0 false t607 t608 t609 w _ ?side1 ?side2 A12.out).mono ?_); (case side1 => exact in116_ HI606); (case side2 => exact bi116_ HB); rintro e w61 ⟨rfl, hi, hb, hk⟩; refine ⟨_, rfl, ?_⟩; replace BK601 := Aside0.mk (KeepBut.blk hk (g' := gb601) (o := .cells #[.int .i64 0, .string (⟨#[]⟩ : ByteArray)] 37 (0, 0)) (kq_ BK601) NB601_606.out (by simp)); replace HB := Aside0.mk hb; replace HI606 := Aside0.mk hi; clear hb hk hi) | ((with_reducible refine gd_ 13 ?_); (try (refine gate_guard (by rfl) ?_; dsimp only)); refine bx_ 13 37 #[.int .i64 0, .string (⟨#[]⟩ : ByteArray)] ?_; intro gb610 hg w62 hbox hb; have BK610 := Aside0.mk hbox; have GW610 := Aside0.mk (gz_ hg (below_size (bs2_ HB (IsS116.ge HI606.out) GE601.out))); have GE610 := Aside0.mk (gz_ hg (below_size (bs2_ HB (IsS116.ge HI606.out) GE601.out))); replace HB := Aside0.mk (below_step (bs2_ HB (IsS116.ge HI606.out) GE601.out) hb); have NB601_610 := nla_ hg BK601; have NB610_601 := nga_ hg BK601; replace BK601 := kl_ BK601 hb; have NB606_610 := Aside0.mk ((by rw [hg]; exact Nat.ne_of_lt (IsS116.lt (show IsS116 w _ gb606 ((l0.take ((wrap64 (t603 + t602)) : Int).toNat).drop (t603 : Int).toNat) t608 t609 from in116_ HI606)) : gb606 ≠ gb610)); have NB610_606 := Aside0.mk ((by rw [hg]; exact Nat.ne_of_gt (IsS116.lt (show IsS116 w _ gb606 ((l0.take ((wrap64 (t603 + t602)) : Int).toNat).drop (t603 : Int).toNat) t608 t609 from in116_ HI606)) : gb610 ≠ gb606)); replace HI606 := Aside0.mk (IsS116.below (in116_ HI606) hb); clear hb hbox hg; have hnb63 := NB610_601.out; have hnc63 := NB601_610.out; have hnb64 := NB610_606.out; have hnc64 := NB606_610.out; have hz65 := cz2_ BK610) | ((with_reducible refine gq_ 99 48 ?_); refine gc_ 48 Tryz.func99 (impl_getter_text.calls kj3 gb606 ((l0.take ((wrap64 (t603 + t602)) : Int).toNat).drop (t603 : Int).toNat) t608 t609 t611 t612 t613 w _ (in116_ HI606) (bi116_ HB) A13.out) ?_; rintro e w66 ⟨rfl, hi, hb, hk⟩; refine ⟨_, rfl, ?_⟩; replace BK601 := Aside0.mk (KeepBut.blk hk (g' := gb601) (o := .cells #[.int .i64 0, .string (⟨#[]⟩ : ByteArray)] 37 (0, 0)) (kq_ BK601) NB601_606.out (by simp)); replace BK610 := Aside0.mk (KeepBut.blk hk (g' := gb610) (o := .cells #[.int .i64 t607, .string (⟨#[]⟩ : ByteArray)] 37 (0, 0)) (kq_ BK610) NB610_606.out (by simp)); replace HB := Aside0.mk hb; replace HI606 := Aside0.mk hi; clear hb hk hi; have hz67 := cz2_ BK610) | ((with_reducible refine gq_ 100 50 ?_); refine gc_ 50 Tryz.func100 (impl_getter_texts.calls kj3 gb606 ((l0.take ((wrap64 (t603 + t602)) : Int).toNat).drop (t603 : Int).toNat) t612 t613 t614 t617 false w _ (in116_ HI606) (bi116_ HB) A14.out) ?_; rintro e w68 ⟨v615, rfl, ho0, hi, hb, hk⟩; refine ⟨_, rfl, ?_⟩; replace BK601 := Aside0.mk (KeepBut.blk hk (g' := gb601) (o := .cells #[.int .i64 0, .string (⟨#[]⟩ : ByteArray)] 37 (0, 0)) (kq_ BK601) NB601_606.out (by simp)); replace BK610 := Aside0.mk (KeepBut.blk hk (g' := gb610) (o := .cells #[.int .i64 t607, .string t611] 37 (0, 0)) (kq_ BK610) NB610_606.out (by simp)); have HO616 := Aside0.mk (Kd.R_lower ho0 (below_size (bs3_ HB (IsS116.ge HI606.out) GE601.out GE610.out))); replace HB := Aside0.mk hb; replace HI606 := Aside0.mk hi; clear hb hk hi ho0))
      obtain ⟨Aq69_0, cq69_0, hb_, hg_, hrq69_0, hqq69_0⟩ := HI606.out
      have BK606 := Aside0.mk hb_
      have HRq69_0 := Aside0.mk hrq69_0
      have HCq69_0 := Aside0.mk hqq69_0
      clear hb_ hg_ hrq69_0 hqq69_0 HI606
      replace HO616 := Aside0.mk (Kd.R_drew HO616.out)
      replace BK601 := Aside0.mk (blk_drew BK601.out)
      replace BK606 := Aside0.mk (blk_drew BK606.out)
      replace BK610 := Aside0.mk (blk_drew BK610.out)
      replace HB := Aside0.mk (below_drew1 HB.out)
      obtain ⟨i071, hi071, _, hsz71, _⟩ := info_parts info5
      obtain ⟨A71, hcut71, hA71, hC71⟩ := print_mid_of (P := Tryz.prog) (Value.int .u8) 0 27 5 .i64 .i64 Tryz.underlying27 hi071 hsz71 A0 c0 l0 a1 (wrap64 ((wrap64 (t603 + t602)) + 4)) (of_decide_eq_true as_) (by first | omega | exact of_decide_eq_true as_) (of_decide_eq_true as_) HC0.out
      have HR622 := Aside0.mk (Kd.C_of_reads (h1 := fun _ => rfl) (hA71 _ (Kd.reads_of_C HR0.out)))
      have HC622 := Aside0.mk hC71
      clear hA71 hC71 hi071 hsz71
      obtain ⟨Ao72, co72, eo72⟩ := Kd.R_slice HO616.out
      (first | subst eo72 | (injection eo72 with f1_ f2_ f3_; have f4_ := f1_.symm; have f5_ := f3_.symm; clear f1_ f2_ f3_; subst f4_; subst f5_))
      refine start_ (n := 13) (S := fun w' => w'.cell? ⟨gb606, 0, none⟩ = some (.slice Aq69_0 ((l0.take ((wrap64 (t603 + t602)) : Int).toNat).drop (t603 : Int).toNat).length cq69_0) ∧ w'.cell? ⟨gb606, 1, none⟩ = some (.int .i64 t617) ∧ w'.cell? ⟨gb606, 2, none⟩ = some (.bool false) ∧ w'.cell? ⟨gb610, 0, none⟩ = some (.int .i64 t607) ∧ w'.cell? ⟨gb610, 1, none⟩ = some (.string t611)) (ds := []) (lz_ 13 0) (by kernel_rfl) rfl rfl ⟨bc0_ BK606.out, bc1_ BK606.out, bc2_ BK606.out, bc0_ BK610.out, bc1_ BK610.out⟩ (fun hHeld => ?_); refine with_tabW impl_GetCommit.tab9 impl_GetCommit.bits9 (fun HT_ HW_ => ?_)
      generalize w68.drew = w70 at HO616 BK601 BK606 BK610 HB HR622 hHeld ⊢
      refine pt_ 0 51 1 ?_
      refine tt_ 1 52 3 ?_
      refine pt_ 2 53 7 ?_
      refine pt_ 4 55 23 ?_
      refine pt_ 6 57 87 ?_
      refine pt_ 7 58 215 ?_
      refine pt_ 8 59 471 ?_
      refine pt_ 9 60 983 ?_
      refine tt_ 3 54 991 ?_
      refine one_ (i := 5) (N := some 56) (lz_ 13 1023) rfl rfl (one_of HT_.out (by kernel_rfl)) (by decide) (fun K hK => ?_)
      refine gf_ Tryz.func102 (impl_PutCommit.calls kj3 t607 t611 _ _ t614 t619 _ (ch_ HO616) (cl_ HO616) A31.out) ?_
      rintro e w73 ⟨v620, rfl, ho0, hb⟩
      refine ⟨_, rfl, ?_⟩
      replace HO616 := rb_ HO616 hb
      have HO621 := Aside0.mk (Kd.R_lower ho0 (sz_ HB))
      replace BK601 := kl_ BK601 hb
      replace BK606 := kl_ BK606 hb
      replace BK610 := kl_ BK610 hb
      replace HB := ss_ HB hb
      clear hb ho0
      obtain ⟨Ao74, co74, eo74⟩ := Kd.R_slice HO621.out
      (first | subst eo74 | (injection eo74 with f1_ f2_ f3_; have f4_ := f1_.symm; have f5_ := f3_.symm; clear f1_ f2_ f3_; subst f4_; subst f5_))
      refine hK.out _ _ ⟨bc0_ BK606.out, bc1_ BK606.out, bc2_ BK606.out, bc0_ BK610.out, bc1_ BK610.out⟩ (fun hHeld => ?_)
      clear hK K
      refine no_ 56 ?_
      refine one_ (i := 10) (N := some 61) (lz_ 13 2047) rfl rfl (one_of HT_.out (by kernel_rfl)) (by decide) (fun K hK => ?_)
      refine goes_ Tryz.func101 (by kernel_rfl) rfl #[.slice Ao74 t619.length co74, .slice A71 ((l0.take ((wrap64 ((wrap64 (t603 + t602)) + 4)) : Int).toNat).drop (a1 : Int).toNat).length (c0 - a1.toNat)] (by rfl) rfl rfl (by (try simp only [List.map_toArray, List.map_cons, List.map_nil]); first | done | (rw [show ((l0.take ((wrap64 ((wrap64 (t603 + t602)) + 4)) : Int).toNat).drop (a1 : Int).toNat).length = ((wrap64 ((wrap64 (t603 + t602)) + 4)).toNat - a1.toNat) from (by rw [List.length_drop, List.length_take]; have h_ : ((wrap64 ((wrap64 (t603 + t602)) + 4)) : Int) ≤ (l0.length : Int) := of_decide_eq_true as_; omega)] <;> rfl) | rfl | (simp only [List.length_drop, List.length_take]; rfl)) ?_
      with_reducible refine (bytes_Equal.calls _ _ t619 _ _ ((l0.take ((wrap64 ((wrap64 (t603 + t602)) + 4)) : Int).toNat).drop (a1 : Int).toNat) false _ ?side1 ?side2 ?side3 ?side4 A35.out).mono ?_
      (case side1 => exact ch_ HO621)
      (case side2 => exact (cl_ HO621))
      (case side3 => exact cb_ HR622 HB)
      (case side4 => exact HC622.out)
      rintro e w' ⟨rfl, ⟨nd, rfl⟩⟩
      refine ⟨_, rfl, ?_⟩
      refine hK.out _ _ ⟨bc0_ BK606.out, bc1_ BK606.out, bc2_ BK606.out, bc0_ BK610.out, bc1_ BK610.out⟩ (fun hHeld => ?_)
      clear hK K
      refine no_ 61 ?_
      refine pt_ 11 62 4095 ?_
      refine pt_ 12 63 8191 ?_
      refine done_ (done_of HT_.out (by kernel_rfl)) ?_
      have hz75 := cz2_ BK601
      try go_wp2
      refine bodyPost_ret (results_list (rs := [.cell 4 37, .tmp 5, .tmp 6, .tmp 7]) rfl (by simp) (.cell gb601 37 #[.int .i64 0, .string (⟨#[]⟩ : ByteArray)] (0, 0) _ rfl (by exact kq_ BK601) Tryz.underlying37 rfl (by kernel_rfl) (.tmp (.tmp (.tmp .nil))))) rfl ?_
      exact ⟨_, e2_, by first | exact Kd.R_nil _ _ _ _ _ | exact Kd.N_nil _ _ _ _ _ | exact Kd.V_nil _ _ _ _ _ | exact Kd.Q_nil _ _ _ _ _ | exact Kd.S_nil _ _ _ _ _, bw_ HB⟩
end Go.Proofs.YtnlndmoecljicaaGreat.Q
end
section
namespace Go.Proofs.YtnlndmoecljicaaGreat.Q
open Go.RowKit Go.Proofs.YtnlndmoecljicaaGreat.B Go.Proofs.YtnlndmoecljicaaGreatW.PrintWords Go.Proofs.YtnlndmoecljicaaGreatW.PrintMore
set_option linter.unusedVariables false
set_option linter.unusedSimpArgs false
theorem commitB_length (n : Nat) (s : ByteArray) (t : List ByteArray) : (commitB n s t).length = (num (bodyB n s t).length).length + (bodyB n s t).length + 4 := by
 unfold commitB
 rw [List.length_append, List.length_append, sumB_length]
 omega
def CommitOf (b : List Int) (at_ n : Int) (s : ByteArray) (t : List ByteArray) (nx : Int) (ok : Bool) : Prop :=
 (ok = true → ∃ a N : Nat, at_ = (a : Int) ∧ n = (N : Int) ∧ headOk n s = true ∧ 1 ≤ t.length ∧ b.drop a = commitB N s t ++ b.drop (a + (commitB N s t).length) ∧ nx = ((a + (commitB N s t).length : Nat) : Int) ∧ a + (commitB N s t).length ≤ b.length) ∧
 (ok = false → n = 0 ∧ s = ⟨#[]⟩ ∧ t = [] ∧ nx = at_ ∧ ∀ (a N : Nat) (s' : ByteArray) (t' : List ByteArray) r, at_ = (a : Int) → b.drop a = commitB N s' t' ++ r → headOk (N : Int) s' = true → 1 ≤ t'.length → t'.length ≤ 200 → (∀ x ∈ t', x.size ≤ 1000000000) → False)
set_option maxHeartbeats 1000000 in
theorem getCommitI (b : List Int) (hb : InB b) (hl : b.length ≤ 10000000) (at_ : Int) (h0 : -9223372036854775808 ≤ at_) (h1 : at_ ≤ 9223372036854775807) :
  ∃ n s t nx ok, Ev (fun q => impl_GetCommit.f q b at_) (n, s, t, nx, ok) ∧ t.length ≤ 200 ∧ CommitOf b at_ n s t nx ok := by
 obtain ⟨m, x, ok, _, e2, hN⟩ := getNum_both b hb (by omega) at_ h0 h1
 have jT : ∀ m x : Int, Ev (fun q => impl_GetCommit.j0 q b at_ m x true) (0, (⟨#[]⟩ : ByteArray), ([] : List ByteArray), at_, false) := fun m x => by
  refine Ev.step (fun q => by simp only [impl_GetCommit.j0]; rfl) ?_
  exact Ev.pos trivial (Ev.now _)
 have bad : ∀ P : Prop, (∀ (a N : Nat) (s' : ByteArray) (t' : List ByteArray) r, at_ = (a : Int) → b.drop a = commitB N s' t' ++ r → headOk (N : Int) s' = true → 1 ≤ t'.length → t'.length ≤ 200 → (∀ x ∈ t', x.size ≤ 1000000000) → False) → CommitOf b at_ 0 ⟨#[]⟩ [] at_ false := fun _ h => ⟨fun q => (by cases q), fun _ => ⟨rfl, rfl, rfl, rfl, h⟩⟩
 unfold impl_GetCommit.f
 cases ok with
 | false =>
  obtain ⟨rfl, rfl, h3⟩ := hN.1 rfl
  refine ⟨0, ⟨#[]⟩, [], at_, false, Ev.bind e2 (Ev.neg (by simp) (jT _ _)), by simp, bad True fun a N s' t' r ha hr _ _ _ _ => ?_⟩
  unfold commitB at hr
  rw [List.append_assoc] at hr
  refine h3 a _ _ ha hr ?_
  have := congrArg List.length hr
  simp only [List.length_append, List.length_drop] at this
  omega
 | true =>
  obtain ⟨a, m, rfl, rfl, hm, hd, rfl, hle⟩ := hN.2 rfl
  have hp1 := num_pos m
  obtain ⟨p, hp⟩ : ∃ p, a + (num m).length = p := ⟨_, rfl⟩
  rw [hp] at e2 hd hle
  clear hN
  have cut : ∀ (N : Nat) (s' : ByteArray) (t' : List ByteArray) r, b.drop a = commitB N s' t' ++ r → m = (bodyB N s' t').length ∧ b.drop p = bodyB N s' t' ++ (sumB (bodyB N s' t') ++ r) := fun N s' t' r hr => by
   unfold commitB at hr
   rw [hd, List.append_assoc, List.append_assoc] at hr
   exact num_inj _ _ _ _ hr
  have w1 : wrap64 ((b.length : Int) - (p : Int)) = (b.length : Int) - (p : Int) := w64 (by omega) (by omega)
  have w2 : wrap64 ((b.length : Int) - (p : Int) - 4) = (b.length : Int) - (p : Int) - 4 := w64 (by omega) (by omega)
  by_cases hg : (m : Int) > (b.length : Int) - (p : Int) - 4
  ·refine ⟨0, ⟨#[]⟩, [], (a : Int), false, ?_, by simp, bad True fun a' N s' t' r ha hr _ _ _ _ => ?_⟩
   ·refine Ev.bind e2 (Ev.pos rfl ?_)
    simp only [w1, w2, decide_eq_true hg]
    exact jT _ _
   ·obtain rfl : a = a' := by omega
    obtain ⟨k1, k2⟩ := cut N s' t' r hr
    have := congrArg List.length k2
    simp only [List.length_append, List.length_drop, sumB_length] at this
    omega
  ·have w3 : wrap64 ((p : Int) + (m : Int)) = ((p + m : Nat) : Int) := by
    rw [w64 (by omega) (by omega)]
    omega
   have w4 : wrap64 (((p + m : Nat) : Int) + 4) = ((p + m + 4 : Nat) : Int) := by
    rw [w64 (by omega) (by omega)]
    omega
   have t1 : ((p + m : Nat) : Int).toNat = p + m := Int.toNat_natCast _
   have t2 : (p : Int).toNat = p := Int.toNat_natCast _
   have t3 : ((p + m + 4 : Nat) : Int).toNat = p + m + 4 := Int.toNat_natCast _
   have t4 : (a : Int).toNat = a := Int.toNat_natCast _
   obtain ⟨B, hB⟩ : ∃ B, (b.take (p + m)).drop p = B := ⟨_, rfl⟩
   have hB2 : B = (b.drop p).take m := by
    rw [← hB, List.drop_take]
    congr 1
    omega
   have hBl : B.length = m := by
    rw [hB2, List.length_take, List.length_drop]
    omega
   have hBb : InB B := by
    rw [hB2]
    exact inB_take (inB_drop hb p) m
   have cutB : ∀ (N : Nat) (s' : ByteArray) (t' : List ByteArray) r, b.drop a = commitB N s' t' ++ r → B = bodyB N s' t' := fun N s' t' r hr => by
    obtain ⟨k1, k2⟩ := cut N s' t' r hr
    rw [hB2, k2, k1, List.take_left]
   obtain ⟨E, hE⟩ : ∃ E, (b.take (p + m + 4)).drop a = E := ⟨_, rfl⟩
   have start : ∀ r, Ev (fun q => (impl_getter_num.f q B 0 false).bind fun bt607 => ((impl_getter_text.f q B bt607.2.1 bt607.2.2).bind fun bt611 => ((impl_getter_texts.f q B bt611.2.1 bt611.2.2).bind fun bt614 => (if bt614.2.2 = true then (some (0, (⟨#[]⟩ : ByteArray), ([] : List ByteArray), (a : Int), false)) else ((impl_PutCommit.f q bt607.1 bt611.1 bt614.1).bind fun t619 => ((bytes_Equal.f t619 E).bind fun t623 => (if t623 = true then (some (bt607.1, bt611.1, bt614.1, ((p + m + 4 : Nat) : Int), true)) else (some (0, (⟨#[]⟩ : ByteArray), ([] : List ByteArray), (a : Int), false))))))))) r → Ev (fun q => (impl_GetNum.f q b (a : Int)).bind fun bt602 => (if bt602.2.2 = true then (impl_GetCommit.j0 q b (a : Int) bt602.1 bt602.2.1 (decide (bt602.1 > (wrap64 ((wrap64 ((b.length : Int) - bt602.2.1)) - 4))))) else (impl_GetCommit.j0 q b (a : Int) bt602.1 bt602.2.1 true))) r := fun r hr => by
    refine Ev.bind e2 (Ev.pos rfl ?_)
    simp only [w1, w2, decide_eq_false hg]
    refine Ev.step (fun q => by simp only [impl_GetCommit.j0, w3, w4, t1, t2, t3, t4, hB, hE]; rfl) ?_
    refine Ev.neg (by simp) (Ev.pos (by omega) (Ev.pos (by omega) (Ev.pos (by omega) ?_)))
    have i1 : (0 : Int) ≤ (a : Int) := by omega
    have i2 : (a : Int) ≤ ((p + m + 4 : Nat) : Int) := by omega
    have i3 : ((p + m + 4 : Nat) : Int) ≤ (b.length : Int) := by omega
    simp only [if_pos i1, if_pos i2, if_pos i3]
    exact hr
   rcases num_step B hBb (by omega) 0 (by omega) with ⟨_, g0, z0⟩ | ⟨v0, p1, q0, l0, y0, r0, _, g0⟩
   ·refine ⟨0, ⟨#[]⟩, [], (a : Int), false, start _ (Ev.bind g0 (Ev.bind (gtext_bad B hBb (by omega) 0 (by omega) (by omega)) (Ev.bind (gtexts_bad B hBb (by omega) 0 (by omega) (by omega)) (Ev.pos rfl (Ev.now _))))), by simp, bad True fun a' N s' t' r ha hr hk c1 c2 c3 => ?_⟩
    obtain rfl : a = a' := by omega
    have hh := headOk_parts hk
    exact z0 N _ (show B.drop 0 = num N ++ (textB s' ++ textsB t') from cutB N s' t' r hr) (by omega)
   ·rcases text_step B hBb (by omega) p1 (by omega) with ⟨_, g1, z1⟩ | ⟨v1, p2, q1, l1, y1, r1, _, g1⟩
    ·refine ⟨0, ⟨#[]⟩, [], (a : Int), false, start _ (Ev.bind g0 (Ev.bind g1 (Ev.bind (gtexts_bad B hBb (by omega) (p1 : Int) (by omega) (by omega)) (Ev.pos rfl (Ev.now _))))), by simp, bad True fun a' N s' t' r ha hr hk c1 c2 c3 => ?_⟩
     obtain rfl : a = a' := by omega
     have hh := headOk_parts hk
     have d0 : B.drop 0 = num N ++ (textB s' ++ textsB t') := cutB N s' t' r hr
     have d1 := (num_inj _ _ _ _ (y0.symm.trans d0)).2
     exact z1 s' _ d1 (by omega)
    ·rcases texts_step B hBb (by omega) p2 (by omega) with ⟨_, g2, z2⟩ | ⟨v2, p3, q2, s2, l2, y2, r2, _, g2⟩
     ·refine ⟨0, ⟨#[]⟩, [], (a : Int), false, start _ (Ev.bind g0 (Ev.bind g1 (Ev.bind g2 (Ev.pos rfl (Ev.now _))))), by simp, bad True fun a' N s' t' r ha hr hk c1 c2 c3 => ?_⟩
      obtain rfl : a = a' := by omega
      have d0 : B.drop 0 = num N ++ (textB s' ++ textsB t') := cutB N s' t' r hr
      have d1 := (num_inj _ _ _ _ (y0.symm.trans d0)).2
      have d2 := (textB_inj (y1.symm.trans d1)).2
      exact z2 t' [] (by rw [List.append_nil]; exact d2) c2 c3
     ·have hBB : B = bodyB v0 v1 v2 ++ B.drop p3 := by
       have e : B.drop 0 = num v0 ++ (textB v1 ++ (textsB v2 ++ B.drop p3)) := by rw [y0, y1, y2]
       unfold bodyB
       simp only [List.append_assoc]
       exact e
      have hge := bodyB_ge v0 v1 v2
      have hBBl : (bodyB v0 v1 v2).length ≤ m := by
       have := congrArg List.length hBB
       rw [List.length_append] at this
       omega
      have ht0 := total_nonneg v2
      have hP := PutCommit_val (v0 : Int) v1 v2 (by omega) (by omega) s2
      rw [Int.toNat_natCast] at hP
      have hEb : InB E := by
       rw [← hE]
       exact inB_drop (inB_take hb _) _
      have hEl : E.length = (num m).length + m + 4 := by
       rw [← hE, List.length_drop, List.length_take]
       omega
      have hEd : b.drop a = E ++ b.drop (p + m + 4) := by
       have e3 : b.drop a = (b.drop a).take (p + m + 4 - a) ++ (b.drop a).drop (p + m + 4 - a) := (List.take_append_drop _ _).symm
       rw [List.drop_drop, ← List.drop_take, show a + (p + m + 4 - a) = p + m + 4 by omega, hE] at e3
       exact e3
      obtain ⟨W, hW⟩ : ∃ W, (if headOk (v0 : Int) v1 = true ∧ 1 ≤ v2.length ∧ v2.length ≤ 200 then commitB v0 v1 v2 else []) = W := ⟨_, rfl⟩
      rw [hW] at hP
      have hWb : InB W := by
       rw [← hW]
       split
       ·exact commitB_inB _ _ _
       ·exact inB_nil
      have hQ : bytes_Equal.f W E = some (decide (W = E)) := by
       unfold bytes_Equal.f
       rw [nums_eq hWb hEb]
      by_cases he : W = E
      ·have hc : headOk (v0 : Int) v1 = true ∧ 1 ≤ v2.length ∧ v2.length ≤ 200 := Classical.byContradiction fun hn => by
        rw [if_neg hn] at hW
        rw [← hW] at he
        have := congrArg List.length he
        rw [hEl] at this
        simp only [List.length_nil] at this
        omega
       rw [if_pos hc] at hW
       have hlen : (commitB v0 v1 v2).length = (num m).length + m + 4 := by rw [hW, he, hEl]
       refine ⟨(v0 : Int), v1, v2, ((p + m + 4 : Nat) : Int), true, start _ (Ev.bind g0 (Ev.bind g1 (Ev.bind g2 (Ev.neg (by simp) (Ev.bind hP (Ev.bind (Ev.const hQ) (Ev.pos (decide_eq_true he) (Ev.now _)))))))), q2, fun _ => ⟨a, v0, rfl, rfl, hc.1, hc.2.1, ?_, ?_, ?_⟩, fun h => (by cases h)⟩
       ·rw [hlen, hW, he, show a + ((num m).length + m + 4) = p + m + 4 by omega]
        exact hEd
       ·rw [hlen]
        congr 1
        omega
       ·rw [hlen]
        omega
      ·refine ⟨0, ⟨#[]⟩, [], (a : Int), false, start _ (Ev.bind g0 (Ev.bind g1 (Ev.bind g2 (Ev.neg (by simp) (Ev.bind hP (Ev.bind (Ev.const hQ) (Ev.neg (by rw [decide_eq_false he]; simp) (Ev.now _)))))))), by simp, bad True fun a' N s' t' r ha hr hk c1 c2 c3 => ?_⟩
       obtain rfl : a = a' := by omega
       have hb2 := cutB N s' t' r hr
       obtain ⟨k1, k2⟩ := cut N s' t' r hr
       obtain ⟨rfl, rfl, rfl, _⟩ := bodyB_inj (show bodyB v0 v1 v2 ++ B.drop p3 = bodyB N s' t' ++ [] by rw [List.append_nil, ← hBB, hb2])
       rw [if_pos ⟨hk, c1, c2⟩] at hW
       apply he
       rw [← hW]
       have hcl := commitB_length v0 v1 v2
       rw [← k1] at hcl
       exact (List.append_inj (hr.symm.trans hEd) (by rw [hcl, hEl])).1
end Go.Proofs.YtnlndmoecljicaaGreat.Q
end
section
namespace Go.Proofs.YtnlndmoecljicaaGreat.Q
open Go.RowKit Go.Proofs.YtnlndmoecljicaaGreatW.PrintWords Go.Proofs.YtnlndmoecljicaaGreatW.PrintLast Go.Proofs.YtnlndmoecljicaaGreatW.PrintMore
attribute [local go_sem] max2_int min2_int max_two min_two max_three min_three max_four min_four   -- for this text's walks alone
set_option linter.unusedVariables false
set_option linter.unusedSimpArgs false
def spec_GetCommit.j0 : Nat → List Int → Int → Int → Int → Bool → Option (Int × ByteArray × List ByteArray × Int × Bool)
 | 0, _, _, _, _, _ => none
 | k + 1, x0, x1, x8, x9, x39 => if x39 = true then (some (0, (⟨#[]⟩ : ByteArray), (([] : List ByteArray)), x1, false)) else (if 0 ≤ x9 then (if x9 ≤ (wrap64 (x9 + x8)) then (if (wrap64 (x9 + x8)) ≤ (x0.length : Int) then ((spec_GetNum.f k ((x0.take ((wrap64 (x9 + x8)) : Int).toNat).drop (x9 : Int).toNat) 0).bind fun bt609 => ((spec_GetText.f k ((x0.take ((wrap64 (x9 + x8)) : Int).toNat).drop (x9 : Int).toNat) bt609.2.1).bind fun bt612 => ((spec_GetTexts.f k ((x0.take ((wrap64 (x9 + x8)) : Int).toNat).drop (x9 : Int).toNat) bt612.2.1).bind fun bt615 => (if bt609.2.2 = true then (if bt612.2.2 = true then (if bt615.2.2 = true then (if bt615.2.1 = (((x0.take ((wrap64 (x9 + x8)) : Int).toNat).drop (x9 : Int).toNat).length : Int) then ((spec_HeadOk.f bt609.1 bt612.1).bind fun t621 => (if t621 = true then (if (bt615.1.length : Int) = 0 then (some (0, (⟨#[]⟩ : ByteArray), (([] : List ByteArray)), x1, false)) else (if 0 ≤ (wrap64 (x9 + x8)) then (if (wrap64 (x9 + x8)) ≤ (wrap64 ((wrap64 (x9 + x8)) + 4)) then (if (wrap64 ((wrap64 (x9 + x8)) + 4)) ≤ (x0.length : Int) then ((spec_Digest.f k ((x0.take ((wrap64 (x9 + x8)) : Int).toNat).drop (x9 : Int).toNat)).bind fun t626 => (if 0 ≤ 4 then (if 4 ≤ (t626.size : Int) then (if (strOfNums ((x0.take ((wrap64 ((wrap64 (x9 + x8)) + 4)) : Int).toNat).drop ((wrap64 (x9 + x8)) : Int).toNat)).toList = (t626.extract 0 4).toList then (some (bt609.1, bt612.1, bt615.1, wrap64 ((wrap64 (x9 + x8)) + 4), true)) else (some (0, (⟨#[]⟩ : ByteArray), (([] : List ByteArray)), x1, false))) else (none)) else (none))) else (none)) else (none)) else (none))) else (some (0, (⟨#[]⟩ : ByteArray), (([] : List ByteArray)), x1, false)))) else (some (0, (⟨#[]⟩ : ByteArray), (([] : List ByteArray)), x1, false))) else (some (0, (⟨#[]⟩ : ByteArray), (([] : List ByteArray)), x1, false))) else (some (0, (⟨#[]⟩ : ByteArray), (([] : List ByteArray)), x1, false))) else (some (0, (⟨#[]⟩ : ByteArray), (([] : List ByteArray)), x1, false)))))) else (none)) else (none)) else (none))
def spec_GetCommit.f (k : Nat) (l0 : List Int) (a1 : Int) : Option (Int × ByteArray × List ByteArray × Int × Bool) := (spec_GetNum.f k l0 a1).bind fun bt602 => (if bt602.2.2 = true then (spec_GetCommit.j0 k l0 a1 bt602.1 bt602.2.1 (decide (bt602.1 > (wrap64 ((wrap64 ((l0.length : Int) - bt602.2.1)) - 4))))) else (spec_GetCommit.j0 k l0 a1 bt602.1 bt602.2.1 true))
def spec_GetCommit.T9 : Bool × List (List Nat × List Nat) := (true, [([], []), ([0], [0]), ([1], [1]), ([2], [2]), ([3, 2], [2, 3]), ([2, 4], [2, 4]), ([5, 2], [5]), ([6], [6]), ([7, 6], [6, 7]), ([6, 8], [6, 8]), ([9, 6], [9]), ([10], [10]), ([10], [10]), ([12, 10], [10, 12]), ([11, 13, 10], [10, 11, 13]), ([10, 14], [10, 14]), ([15, 10], [15]), ([16], [16]), ([17, 16, 16], [16, 17]), ([18, 16], [16, 18]), ([16, 19], [16, 19]), ([20, 18], [20]), ([21], [21]), ([22, 21], [21, 22]), ([23, 21], [21, 23]), ([21, 24], [21, 24]), ([25, 21], [25]), ([26], [26]), ([26], [26]), ([26], [26]), ([28, 29, 26], [26, 28, 29]), ([26], [26]), ([26], [26]), ([31, 32, 26], [26, 31, 32]), ([33, 26], [26, 33]), ([27, 30, 34, 26], [26, 27, 30, 34]), ([35, 26], [26, 35]), ([26], [26]), ([37, 26, 26], [26, 37]), ([38, 26], [26, 38]), ([36, 39, 26], [26, 36, 39]), ([26, 40], [26, 40])])
def spec_GetCommit.B9 : List Nat := [0, 1, 3, 7, 15, 31, 63, 127, 255, 511, 1023, 2047, 2047, 6143, 16383, 32767, 65535, 131071, 262143, 524287, 1048575, 2097151, 4194303, 8388607, 16777215, 33554431, 67108863, 134217727, 134217727, 134217727, 939524095, 134217727, 134217727, 6576668671, 15166603263, 34359738367, 68719476735, 134217727, 137573171199, 412451078143, 1099511627775, 2199023255551]
theorem spec_GetCommit.tab9 : rtab .any (opsOf Tryz.f127 9) = spec_GetCommit.T9 := by kernel_rfl
theorem spec_GetCommit.bits9 : waitsOk spec_GetCommit.T9.2 spec_GetCommit.B9 = true := by kernel_rfl
def lb (m : Nat) : Array Bool := ((List.range 42).map fun i => Nat.testBit m i).toArray
theorem sT {α : Type} {l : List α} {i : Nat} {a : α} : l.toArray.setIfInBounds i a = (l.set i a).toArray := by simp
theorem sZ {α : Type} {x : α} {l : List α} {a : α} : (x :: l).set 0 a = a :: l := rfl
theorem sS {α : Type} {x : α} {l : List α} {i : Nat} {a : α} : (x :: l).set (i + 1) a = x :: l.set i a := rfl
set_option maxHeartbeats 8000000 in
set_option maxRecDepth 100000 in
theorem spec_GetCommit.calls (k : Nat) (A0 : Option Addr) (c0 : Nat) (l0 : List Int) (a1 : Int) (r1 : Int) (r2 : ByteArray) (r3 : List ByteArray) (r4 : Int) (r5 : Bool) (w : World) (hr0 : Kd.C (Kd.int .u8) w A0 l0.length l0) (hc0 : l0.length ≤ c0) (h : spec_GetCommit.f k l0 a1 = some (r1, r2, r3, r4, r5)) :
  Calls Tryz.prog 127 #[.slice A0 l0.length c0, .int .i64 a1] w fun e w' => ∃ v2_ : Value, e = .returned (.tuple #[.agg #[.int .i64 r1, .string r2], v2_, .int .i64 r4, .bool r5]) ∧ Kd.R Kd.string 9 w' w.heap.size (fun _ => True) v2_ r3 ∧ Below w.heap.size w w' := by
 have hu37 := Tryz.underlying37
 have HR0 := Aside0.mk hr0
 have HC0 := Aside0.mk hc0
 clear hr0 hc0
 have HB := Aside0.mk (Below.refl w.heap.size w)
 have H : ((spec_GetNum.f k l0 a1).bind fun bt602 => (if bt602.2.2 = true then (spec_GetCommit.j0 k l0 a1 bt602.1 bt602.2.1 (decide (bt602.1 > (wrap64 ((wrap64 ((l0.length : Int) - bt602.2.1)) - 4))))) else (spec_GetCommit.j0 k l0 a1 bt602.1 bt602.2.1 true))) = some (r1, r2, r3, r4, r5) := h
 clear h
 replace H := bi_ H; obtain ⟨⟨t602, t603, t604⟩, A3, H⟩ := H
 dsimp only at H
 have HC4 := Aside0.mk H
 clear H
 go_enter Tryz.func127, Tryz.ntmps127
 go_upto_region 2 with (first | ((with_reducible refine gd_ 4 ?_); (try (refine gate_guard (by rfl) ?_; dsimp only)); refine bx_ 4 37 #[.int .i64 0, .string (⟨#[]⟩ : ByteArray)] ?_; intro gb601 hg w5 hbox hb; have BK601 := Aside0.mk hbox; have GW601 := gg_ hg HB; have GE601 := GW601; replace HB := ss_ HB hb; clear hb hbox hg) | ((with_reducible refine gq_ 147 25 ?_); refine gc_ 25 Tryz.func147 (spec_GetNum.calls k _ _ l0 a1 t602 t603 t604 _ (cb_ HR0 HB) HC0.out A3.out) ?_; rintro e w' ⟨rfl, ⟨nd, rfl⟩⟩; refine ⟨_, rfl, ?_⟩))
 (try simp only [Act.put, List.setIfInBounds_toArray, List.set_cons_zero, List.set_cons_succ])
 go_cut [39] (fun v39 wc => ∃ (kq : Nat) (x39_3 : Bool), v39 = .bool x39_3 ∧ Aside0 (spec_GetCommit.j0 kq l0 a1 t602 t603 x39_3 = some (r1, r2, r3, r4, r5)) ∧ Aside0 (kq ≤ k) ∧ Aside0 (wc.heap[gb601]? = some (.cells #[.int .i64 0, .string (⟨#[]⟩ : ByteArray)] 37 (0, 0))) ∧ Aside0 (Below w.heap.size w wc))
 case first =>
  have H := HC4.out
  clear HC4
  replace H := itb_ H; obtain ⟨rfl, H⟩ | ⟨rfl, H⟩ := H
  ·have H' := Aside0.mk H
   clear H
   go_wp2
   go_meet
   case rel => exact ⟨_, (decide (t602 > (wrap64 ((wrap64 ((l0.length : Int) - t603)) - 4)))), e1_, H', ⟨le_⟩, ⟨kb_ BK601.out⟩, ⟨bw_ HB⟩⟩
  ·have H' := Aside0.mk H
   clear H
   go_wp2
   go_meet
   case rel => exact ⟨_, (true), e1_, H', ⟨le_⟩, ⟨kb_ BK601.out⟩, ⟨bw_ HB⟩⟩
 case rest =>
  clear HC4
  obtain ⟨kq, x39_3, rfl, HA, HJ3, BK601, HB⟩ := hcut
  cases kq with
  | zero => exact absurd HA.out (by simp [spec_GetCommit.j0])
  | succ kj3 =>
   have H := HA.out
   clear HA
   simp only [spec_GetCommit.j0] at H
   replace H := itb_ H; obtain ⟨rfl, H⟩ | ⟨rfl, H⟩ := H
   ·obtain ⟨y605, hy605⟩ : ∃ y_ : List ByteArray, y_ = (([] : List ByteArray)) := ⟨_, rfl⟩
    replace H : (some (0, (⟨#[]⟩ : ByteArray), y605, a1, false)) = some (r1, r2, r3, r4, r5) := yh_ hy605 H
    have Ny605 := Aside0.mk hy605
    clear hy605
    replace H := so5_ H; obtain ⟨rfl, rfl, rfl, rfl, rfl⟩ := H
    go_wp2_with (first | ((with_reducible refine gd_ 41 ?_); (try (refine gate_guard (by rfl) ?_; dsimp only)); refine rl_ Kd.string 9 41 ([] : List ByteArray) [] ?_; intro v606 w8 ho9 hb hg_ hnew_; clear hg_ hnew_; (first | rw [← Ny605.out] at ho9 | (simp only [Int.reduceToNat] at ho9; rw [← Ny605.out] at ho9)); have HO607 := Aside0.mk (Kd.R_lower ho9 (sz_ HB)); replace BK601 := kl_ BK601 hb; replace HB := ss_ HB hb; clear hb ho9; have hz10 := cz2_ BK601))
    refine bodyPost_ret (results_list (rs := [.cell 4 37, .tmp 5, .tmp 6, .tmp 7]) rfl (by simp) (.cell gb601 37 #[.int .i64 0, .string (⟨#[]⟩ : ByteArray)] (0, 0) _ rfl (by exact kq_ BK601) Tryz.underlying37 rfl (by kernel_rfl) (.tmp (.tmp (.tmp .nil))))) rfl ?_
    exact ⟨_, e2_, by (with_reducible repeat (first | apply Kd.R_alloc | apply Kd.R_drewN | apply Kd.R_drew)); exact Kd.R_mono (Kd.R_far (p := ⟨gb601, 1, none⟩) (Kd.R_far (p := ⟨gb601, 0, none⟩) (Kd.R_types HO607.out BK601.out (by decide)) (fun _ hk => hk.2) (.int .i64 0)) (fun _ hk => hk.2) (.string (⟨#[]⟩ : ByteArray))) (fun _ hk => trivial), bw_ HB⟩
   ·replace H := ip_ H; obtain ⟨c11, H⟩ := H
    have c11b0 := eq_true c11
    have c11b1 := decide_eq_true c11
    clear c11
    replace H := ip_ H; obtain ⟨c12, H⟩ := H
    have c12b0 := eq_true c12
    have c12b1 := decide_eq_true c12
    replace H := ip_ H; obtain ⟨c13, H⟩ := H
    have c13b0 := eq_true c13
    have c13b1 := decide_eq_true c13
    replace H := bi_ H; obtain ⟨⟨t609, t610, t611⟩, A14, H⟩ := H
    dsimp only at H
    replace H := bi_ H; obtain ⟨⟨t612, t613, t614⟩, A15, H⟩ := H
    dsimp only at H
    replace H := bi_ H; obtain ⟨⟨t615, t616, t617⟩, A16, H⟩ := H
    dsimp only at H
    obtain ⟨i0116, hi0116, _, hsz116, _⟩ := info_parts info5
    obtain ⟨A116, hcut116, hA116, hC116⟩ := print_mid_of (P := Tryz.prog) (Value.int .u8) 0 27 5 .i64 .i64 Tryz.underlying27 hi0116 hsz116 A0 c0 l0 t603 (wrap64 (t603 + t602)) (of_decide_eq_true as_) (by first | omega | exact of_decide_eq_true as_) (of_decide_eq_true as_) HC0.out
    have HR608 := Aside0.mk (Kd.C_of_reads (h1 := fun _ => rfl) (hA116 _ (Kd.reads_of_C HR0.out)))
    have HC608 := Aside0.mk hC116
    clear hA116 hC116 hi0116 hsz116
    try go_wp2_with (first | ((with_reducible refine gk_ 147 ?_); refine gl_ 51 Tryz.func147 #[.slice A116 ((l0.take ((wrap64 (t603 + t602)) : Int).toNat).drop (t603 : Int).toNat).length (c0 - t603.toNat), .int .i64 0] ?_ (hargs := (by (try simp only [List.map_toArray, List.map_cons, List.map_nil]); first | done | (rw [show ((l0.take ((wrap64 (t603 + t602)) : Int).toNat).drop (t603 : Int).toNat).length = ((wrap64 (t603 + t602)).toNat - t603.toNat) from (by rw [List.length_drop, List.length_take]; have h_ : ((wrap64 (t603 + t602)) : Int) ≤ (l0.length : Int) := of_decide_eq_true as_; omega)] <;> rfl) | rfl | (simp only [List.length_drop, List.length_take]; rfl))); (with_reducible refine (spec_GetNum.calls kj3 _ _ ((l0.take ((wrap64 (t603 + t602)) : Int).toNat).drop (t603 : Int).toNat) 0 t609 t610 t611 _ ?side1 ?side2 A14.out).mono ?_); (case side1 => exact cb_ HR608 HB); (case side2 => exact HC608.out); rintro e w' ⟨rfl, ⟨nd, rfl⟩⟩; refine ⟨_, rfl, ?_⟩; (try (rw [drewN_self wc]; generalize hq_ : World.drewN wc _ = wc; have n0_ : Aside0 (wc.heap[gb601]? = some (.cells #[.int .i64 0, .string (⟨#[]⟩ : ByteArray)] 37 (0, 0))) := ⟨by rw [← hq_]; exact (kb_ BK601.out)⟩; have n1_ : Aside0 (Below w.heap.size w wc) := ⟨by rw [← hq_]; exact (bw_ HB)⟩; clear BK601 HB hq_; have BK601 := n0_; have HB := n1_; clear n0_ n1_))) | ((with_reducible refine gk_ 148 ?_); refine gl_ 58 Tryz.func148 #[.slice A116 ((l0.take ((wrap64 (t603 + t602)) : Int).toNat).drop (t603 : Int).toNat).length (c0 - t603.toNat), .int .i64 t610] ?_ (hargs := (by (try simp only [List.map_toArray, List.map_cons, List.map_nil]); first | done | (rw [show ((l0.take ((wrap64 (t603 + t602)) : Int).toNat).drop (t603 : Int).toNat).length = ((wrap64 (t603 + t602)).toNat - t603.toNat) from (by rw [List.length_drop, List.length_take]; have h_ : ((wrap64 (t603 + t602)) : Int) ≤ (l0.length : Int) := of_decide_eq_true as_; omega)] <;> rfl) | rfl | (simp only [List.length_drop, List.length_take]; rfl))); (with_reducible refine (spec_GetText.calls kj3 _ _ ((l0.take ((wrap64 (t603 + t602)) : Int).toNat).drop (t603 : Int).toNat) t610 t612 t613 t614 _ ?side1 ?side2 A15.out).mono ?_); (case side1 => exact cb_ HR608 HB); (case side2 => exact HC608.out); rintro e w' ⟨rfl, ⟨nd, rfl⟩⟩; refine ⟨_, rfl, ?_⟩; (try (rw [drewN_self wc]; generalize hq_ : World.drewN wc _ = wc; have n0_ : Aside0 (wc.heap[gb601]? = some (.cells #[.int .i64 0, .string (⟨#[]⟩ : ByteArray)] 37 (0, 0))) := ⟨by rw [← hq_]; exact (kb_ BK601.out)⟩; have n1_ : Aside0 (Below w.heap.size w wc) := ⟨by rw [← hq_]; exact (bw_ HB)⟩; clear BK601 HB hq_; have BK601 := n0_; have HB := n1_; clear n0_ n1_))) | ((with_reducible refine gk_ 149 ?_); refine gl_ 65 Tryz.func149 #[.slice A116 ((l0.take ((wrap64 (t603 + t602)) : Int).toNat).drop (t603 : Int).toNat).length (c0 - t603.toNat), .int .i64 t613] ?_ (hargs := (by (try simp only [List.map_toArray, List.map_cons, List.map_nil]); first | done | (rw [show ((l0.take ((wrap64 (t603 + t602)) : Int).toNat).drop (t603 : Int).toNat).length = ((wrap64 (t603 + t602)).toNat - t603.toNat) from (by rw [List.length_drop, List.length_take]; have h_ : ((wrap64 (t603 + t602)) : Int) ≤ (l0.length : Int) := of_decide_eq_true as_; omega)] <;> rfl) | rfl | (simp only [List.length_drop, List.length_take]; rfl))); (with_reducible refine (spec_GetTexts.calls kj3 _ _ ((l0.take ((wrap64 (t603 + t602)) : Int).toNat).drop (t603 : Int).toNat) t613 t615 t616 t617 _ ?side1 ?side2 A16.out).mono ?_); (case side1 => exact cb_ HR608 HB); (case side2 => exact HC608.out); rintro e w117 ⟨v618, rfl, ho0, hb⟩; refine ⟨_, rfl, ?_⟩; have HO619 := Aside0.mk (Kd.R_lower ho0 (sz_ HB)); replace BK601 := kl_ BK601 hb; replace HB := ss_ HB hb; clear hb ho0) | ((with_reducible refine gd_ 21 ?_); (try (refine gate_guard (by rfl) ?_; dsimp only)); refine bx_ 21 37 #[.int .i64 0, .string (⟨#[]⟩ : ByteArray)] ?_; intro gb620 hg w118 hbox hb; replace HO619 := rb_ HO619 hb; have BK620 := Aside0.mk hbox; have GW620 := gg_ hg HB; have GE620 := GW620; replace HB := ss_ HB hb; have NB601_620 := nla_ hg BK601; have NB620_601 := nga_ hg BK601; replace BK601 := kl_ BK601 hb; clear hb hbox hg; have hnb119 := NB620_601.out; have hnc119 := NB601_620.out; have hz120 := cz2_ BK620))
    have n0_ : Aside0 (Kd.R Kd.string 9 ((w118.setCell ⟨gb620, 0, none⟩ (.int .i64 t609)).setCell ⟨gb620, 1, none⟩ (.string t612)) w.heap.size (fun _ => True) v618 t615) := ⟨by (with_reducible repeat (first | apply Kd.R_alloc | apply Kd.R_drewN | apply Kd.R_drew)); exact Kd.R_mono (Kd.R_far (p := ⟨gb620, 1, none⟩) (Kd.R_far (p := ⟨gb620, 0, none⟩) (Kd.R_types HO619.out BK620.out (by decide)) (fun _ hk => hk.2) (.int .i64 t609)) (fun _ hk => hk.2) (.string t612)) (fun _ hk => trivial)⟩
    have n1_ : Aside0 (((w118.setCell ⟨gb620, 0, none⟩ (.int .i64 t609)).setCell ⟨gb620, 1, none⟩ (.string t612)).heap[gb601]? = some (.cells #[.int .i64 0, .string (⟨#[]⟩ : ByteArray)] 37 (0, 0))) := ⟨kq_ BK601⟩
    have n2_ : Aside0 (((w118.setCell ⟨gb620, 0, none⟩ (.int .i64 t609)).setCell ⟨gb620, 1, none⟩ (.string t612)).heap[gb620]? = some (.cells #[.int .i64 t609, .string t612] 37 (0, 0))) := ⟨kq_ BK620⟩
    have n3_ : Aside0 (Below w.heap.size w ((w118.setCell ⟨gb620, 0, none⟩ (.int .i64 t609)).setCell ⟨gb620, 1, none⟩ (.string t612))) := ⟨bw_ HB⟩
    generalize ((w118.setCell ⟨gb620, 0, none⟩ (.int .i64 t609)).setCell ⟨gb620, 1, none⟩ (.string t612)) = w121 at n0_ n1_ n2_ n3_ ⊢
    have HO619 := n0_
    have BK601 := n1_
    have BK620 := n2_
    have HB := n3_
    clear n0_ n1_ n2_ n3_
    replace HO619 := Aside0.mk (Kd.R_drew HO619.out)
    replace BK601 := Aside0.mk (blk_drew BK601.out)
    replace BK620 := Aside0.mk (blk_drew BK620.out)
    replace HB := Aside0.mk (below_drew1 HB.out)
    obtain ⟨Ao52, co52, eo52⟩ := Kd.R_slice HO619.out
    subst eo52
    have hlenq : ((l0.take ((wrap64 (t603 + t602)) : Int).toNat).drop (t603 : Int).toNat).length = ((wrap64 (t603 + t602)).toNat - t603.toNat) := (by rw [List.length_drop, List.length_take]; have h_ : ((wrap64 (t603 + t602)) : Int) ≤ (l0.length : Int) := of_decide_eq_true as_; omega)
    refine start_ (n := 42) (S := fun w' => w'.cell? ⟨gb620, 0, none⟩ = some (.int .i64 t609) ∧ w'.cell? ⟨gb620, 1, none⟩ = some (.string t612) ∧ Kd.C (Kd.int .u8) w' A0 l0.length l0) (ds := []) (lz_ 42 0) (by kernel_rfl) rfl rfl ⟨bc0_ BK620.out, bc1_ BK620.out, Kd.C_below HR0.out HB.out⟩ (fun hHeld => ?_); refine with_tabW spec_GetCommit.tab9 spec_GetCommit.bits9 (fun HT_ HW_ => ?_)
    generalize w121.drew = w122 at HO619 BK601 BK620 HB hHeld ⊢
    refine join_ (σ := List Value) 0 (lz_ 42 4398046511103) (fun s => [(72, s.getD 0 undef), (73, s.getD 1 undef), (74, s.getD 2 undef), (75, s.getD 3 undef), (76, s.getD 4 undef), (77, s.getD 5 undef), (78, s.getD 6 undef), (79, s.getD 7 undef), (80, s.getD 8 undef), (81, s.getD 9 undef), (82, s.getD 10 undef), (83, s.getD 11 undef), (84, s.getD 12 undef), (85, s.getD 13 undef), (86, s.getD 14 undef), (87, s.getD 15 undef), (88, s.getD 16 undef), (89, s.getD 17 undef), (90, s.getD 18 undef), (91, s.getD 19 undef), (92, s.getD 20 undef), (93, s.getD 21 undef), (94, s.getD 22 undef), (95, s.getD 23 undef), (96, s.getD 24 undef), (97, s.getD 25 undef), (98, s.getD 26 undef), (99, s.getD 27 undef), (100, s.getD 28 undef), (101, s.getD 29 undef), (102, s.getD 30 undef), (103, s.getD 31 undef), (104, s.getD 32 undef), (105, s.getD 33 undef), (106, s.getD 34 undef), (107, s.getD 35 undef), (108, s.getD 36 undef), (109, s.getD 37 undef), (110, s.getD 38 undef), (111, s.getD 39 undef), (112, s.getD 40 undef), (113, .bool true)]) (fun (s : List Value) (w' : World) => some ((0 : Int), (⟨#[]⟩ : ByteArray), ([] : List ByteArray), a1, false) = some (r1, r2, r3, r4, r5) ∧ Kd.R Kd.string 9 w' w.heap.size (fun _ => True) (.slice Ao52 t615.length co52) t615 ∧ w'.heap[gb601]? = some (.cells #[.int .i64 0, .string (⟨#[]⟩ : ByteArray)] 37 (0, 0)) ∧ w'.heap[gb620]? = some (.cells #[.int .i64 t609, .string t612] 37 (0, 0)) ∧ Below w.heap.size w w') ?_ ?_
    rotate_left
    ·intro hJ41
     refine join_ (σ := List Value) 16 (lz_ 42 67108863) (fun s => [(72, s.getD 0 undef), (73, s.getD 1 undef), (74, s.getD 2 undef), (75, s.getD 3 undef), (76, s.getD 4 undef), (77, s.getD 5 undef), (78, s.getD 6 undef), (79, s.getD 7 undef), (80, s.getD 8 undef), (81, s.getD 9 undef), (82, s.getD 10 undef), (83, s.getD 11 undef), (84, s.getD 12 undef), (85, s.getD 13 undef), (86, s.getD 14 undef), (87, s.getD 15 undef), (88, s.getD 16 undef), (89, s.getD 17 undef), (90, s.getD 18 undef), (91, s.getD 19 undef), (92, s.getD 20 undef), (93, s.getD 21 undef), (94, s.getD 22 undef), (95, s.getD 23 undef), (96, s.getD 24 undef), (97, .bool true)]) (fun (s : List Value) (w' : World) => some ((0 : Int), (⟨#[]⟩ : ByteArray), ([] : List ByteArray), a1, false) = some (r1, r2, r3, r4, r5) ∧ Kd.R Kd.string 9 w' w.heap.size (fun _ => True) (.slice Ao52 t615.length co52) t615 ∧ w'.heap[gb601]? = some (.cells #[.int .i64 0, .string (⟨#[]⟩ : ByteArray)] 37 (0, 0)) ∧ w'.heap[gb620]? = some (.cells #[.int .i64 t609, .string t612] 37 (0, 0)) ∧ Below w.heap.size w w') ?_ ?_
     rotate_left
     ·intro hJ25
      refine join_ (σ := List Value) 21 (lz_ 42 2097151) (fun s => [(72, s.getD 0 undef), (73, s.getD 1 undef), (74, s.getD 2 undef), (75, s.getD 3 undef), (76, s.getD 4 undef), (77, s.getD 5 undef), (78, s.getD 6 undef), (79, s.getD 7 undef), (80, s.getD 8 undef), (81, s.getD 9 undef), (82, s.getD 10 undef), (83, s.getD 11 undef), (84, s.getD 12 undef), (85, s.getD 13 undef), (86, s.getD 14 undef), (87, s.getD 15 undef), (88, s.getD 16 undef), (89, s.getD 17 undef), (90, s.getD 18 undef), (91, s.getD 19 undef), (92, .bool true)]) (fun (s : List Value) (w' : World) => some ((0 : Int), (⟨#[]⟩ : ByteArray), ([] : List ByteArray), a1, false) = some (r1, r2, r3, r4, r5) ∧ Kd.R Kd.string 9 w' w.heap.size (fun _ => True) (.slice Ao52 t615.length co52) t615 ∧ w'.heap[gb601]? = some (.cells #[.int .i64 0, .string (⟨#[]⟩ : ByteArray)] 37 (0, 0)) ∧ w'.heap[gb620]? = some (.cells #[.int .i64 t609, .string t612] 37 (0, 0)) ∧ Below w.heap.size w w') ?_ ?_
      rotate_left
      ·intro hJ20
       refine join_ (σ := List Value) 26 (lz_ 42 65535) (fun s => [(72, s.getD 0 undef), (73, s.getD 1 undef), (74, s.getD 2 undef), (75, s.getD 3 undef), (76, s.getD 4 undef), (77, s.getD 5 undef), (78, s.getD 6 undef), (79, s.getD 7 undef), (80, s.getD 8 undef), (81, s.getD 9 undef), (82, s.getD 10 undef), (83, s.getD 11 undef), (84, s.getD 12 undef), (85, s.getD 13 undef), (86, s.getD 14 undef), (87, .bool true)]) (fun (s : List Value) (w' : World) => some ((0 : Int), (⟨#[]⟩ : ByteArray), ([] : List ByteArray), a1, false) = some (r1, r2, r3, r4, r5) ∧ Kd.R Kd.string 9 w' w.heap.size (fun _ => True) (.slice Ao52 t615.length co52) t615 ∧ w'.heap[gb601]? = some (.cells #[.int .i64 0, .string (⟨#[]⟩ : ByteArray)] 37 (0, 0)) ∧ w'.heap[gb620]? = some (.cells #[.int .i64 t609, .string t612] 37 (0, 0)) ∧ Below w.heap.size w w') ?_ ?_
       rotate_left
       ·intro hJ15
        refine join_ (σ := List Value) 32 (lz_ 42 1023) (fun s => [(72, s.getD 0 undef), (73, s.getD 1 undef), (74, s.getD 2 undef), (75, s.getD 3 undef), (76, s.getD 4 undef), (77, s.getD 5 undef), (78, s.getD 6 undef), (79, s.getD 7 undef), (80, s.getD 8 undef), (81, .bool true)]) (fun (s : List Value) (w' : World) => some ((0 : Int), (⟨#[]⟩ : ByteArray), ([] : List ByteArray), a1, false) = some (r1, r2, r3, r4, r5) ∧ Kd.R Kd.string 9 w' w.heap.size (fun _ => True) (.slice Ao52 t615.length co52) t615 ∧ w'.heap[gb601]? = some (.cells #[.int .i64 0, .string (⟨#[]⟩ : ByteArray)] 37 (0, 0)) ∧ w'.heap[gb620]? = some (.cells #[.int .i64 t609, .string t612] 37 (0, 0)) ∧ Below w.heap.size w w') ?_ ?_
        rotate_left
        ·intro hJ9
         refine join_ (σ := List Value) 36 (lz_ 42 63) (fun s => [(72, s.getD 0 undef), (73, s.getD 1 undef), (74, s.getD 2 undef), (75, s.getD 3 undef), (76, s.getD 4 undef), (77, .bool true)]) (fun (s : List Value) (w' : World) => some ((0 : Int), (⟨#[]⟩ : ByteArray), ([] : List ByteArray), a1, false) = some (r1, r2, r3, r4, r5) ∧ Kd.R Kd.string 9 w' w.heap.size (fun _ => True) (.slice Ao52 t615.length co52) t615 ∧ w'.heap[gb601]? = some (.cells #[.int .i64 0, .string (⟨#[]⟩ : ByteArray)] 37 (0, 0)) ∧ w'.heap[gb620]? = some (.cells #[.int .i64 t609, .string t612] 37 (0, 0)) ∧ Below w.heap.size w w') ?_ ?_
         rotate_left
         ·intro hJ5
          cases t611 with
          | false =>
           rw [if_neg (by decide)] at H
           refine pts_ 0 72 1 ?_
           refine pts_ 1 73 3 ?_
           refine pts_ 2 74 7 ?_
           refine uts_ 3 75 15 ?_
           refine uts_ 4 76 31 ?_
           refine pts_ 5 77 63 ?_
           exact njs_ (hJ5 [_, _, _, _, _] _ ⟨H, (kr_ HO619.out), (kb_ BK601.out), (kb_ BK620.out), (bw_ HB)⟩)
          | true =>
           rw [if_pos rfl] at H
           refine pts_ 0 72 1 ?_
           refine pts_ 1 73 3 ?_
           refine pts_ 2 74 7 ?_
           cases t614 with
           | false =>
            rw [if_neg (by decide)] at H
            refine pts_ 3 75 15 ?_
            refine pts_ 4 76 31 ?_
            refine pts_ 5 77 63 ?_
            exact njs_ (hJ5 [_, _, _, _, _] _ ⟨H, (kr_ HO619.out), (kb_ BK601.out), (kb_ BK620.out), (bw_ HB)⟩)
           | true =>
            rw [if_pos rfl] at H
            refine pts_ 3 75 15 ?_
            refine pts_ 4 76 31 ?_
            refine pts_ 5 77 63 ?_
            cases t617 with
            | false =>
             rw [if_neg (by decide)] at H
             refine pts_ 6 78 127 ?_
             refine pts_ 7 79 255 ?_
             refine pts_ 8 80 511 ?_
             refine pts_ 9 81 1023 ?_
             exact njs_ (hJ9 [_, _, _, _, _, _, _, _, _] _ ⟨H, (kr_ HO619.out), (kb_ BK601.out), (kb_ BK620.out), (bw_ HB)⟩)
            | true =>
             rw [if_pos rfl] at H
             refine pts_ 6 78 127 ?_
             refine pts_ 7 79 255 ?_
             refine pts_ 8 80 511 ?_
             refine pts_ 9 81 1023 ?_
             refine pts_ 10 82 2047 ?_
             replace H := it_ H; obtain ⟨c20, H⟩ | ⟨c20, H⟩ := H
             ·have c20b0 : (t616 == (((l0.take ((wrap64 (t603 + t602)) : Int).toNat).drop (t603 : Int).toNat).length : Int)) = true := beq_iff_eq.mpr c20
              have c20b1 : (t616 != (((l0.take ((wrap64 (t603 + t602)) : Int).toNat).drop (t603 : Int).toNat).length : Int)) = false := bne_eq_false_iff_eq.mpr c20
              have c20n0 := c20b0
              rw [hlenq] at c20n0
              have c20n1 := c20b1
              rw [hlenq] at c20n1
              refine pts_ 11 83 4095 ?_
              refine pts_ 12 84 8191 ?_
              refine pts_ 13 85 16383 ?_
              refine pts_ 14 86 32767 ?_
              refine pts_ 15 87 65535 ?_
              refine pts_ 16 88 131071 ?_
              replace H := bi_ H; obtain ⟨t621, A21, H⟩ := H
              refine tts_ 17 89 262143 ?_
              refine one_ (i := 18) (N := some 90) (lz_ 42 524287) rfl rfl (one_of HT_.out (by kernel_rfl)) (by decide) (fun K hK => ?_)
              refine goes_ Tryz.func74 (by kernel_rfl) rfl #[.agg #[.int .i64 t609, .string t612]] (by rfl) rfl rfl (by (try simp only [List.map_toArray, List.map_cons, List.map_nil]); first | done | (rw [hlenq] <;> rfl) | rfl) ?_
              with_reducible refine (spec_HeadOk.calls t609 t612 t621 _ A21.out).mono ?_
              rintro e w51 ⟨rfl, hb⟩
              refine ⟨_, rfl, ?_⟩
              have n0_ := rb_ HO619 hb
              have n1_ := Aside0.mk (blk_below BK601.out hb)
              have n2_ := Aside0.mk (blk_below BK620.out hb)
              have n3_ := Aside0.mk (below_step HB.out hb)
              clear HO619 BK601 BK620 HB
              have HO619 := n0_
              have BK601 := n1_
              have BK620 := n2_
              have HB := n3_
              clear n0_ n1_ n2_ n3_
              clear hb
              refine hK.out _ _ ⟨bc0_ BK620.out, bc1_ BK620.out, Kd.C_below HR0.out HB.out⟩ (fun hHeld => ?_)
              clear hK K
              refine nos_ 90 ?_
              cases t621 with
              | false =>
               rw [if_neg (by decide)] at H
               refine pts_ 19 91 1048575 ?_
               refine pts_ 20 92 2097151 ?_
               exact njs_ (hJ20 [_, _, _, _, _, _, _, _, _, _, _, _, _, _, _, _, _, _, _, _] _ ⟨H, (kr_ HO619.out), (kb_ BK601.out), (kb_ BK620.out), (bw_ HB)⟩)
              | true =>
               rw [if_pos rfl] at H
               refine pts_ 19 91 1048575 ?_
               refine pts_ 20 92 2097151 ?_
               refine pts_ 21 93 4194303 ?_
               replace H := it_ H; obtain ⟨c23, H⟩ | ⟨c23, H⟩ := H
               ·have c23b0 : ((t615.length : Int) == 0) = true := beq_iff_eq.mpr c23
                have c23b1 : ((t615.length : Int) != 0) = false := bne_eq_false_iff_eq.mpr c23
                have c23b2 : t615 = [] := List.eq_nil_of_length_eq_zero (by omega)
                refine pts_ 22 94 8388607 ?_
                refine pts_ 23 95 16777215 ?_
                refine pts_ 24 96 33554431 ?_
                refine pts_ 25 97 67108863 ?_
                exact njs_ (hJ25 [_, _, _, _, _, _, _, _, _, _, _, _, _, _, _, _, _, _, _, _, _, _, _, _, _] _ ⟨H, (kr_ HO619.out), (kb_ BK601.out), (kb_ BK620.out), (bw_ HB)⟩)
               ·have c23b0 : ((t615.length : Int) == 0) = false := beq_eq_false_iff_ne.mpr c23
                have c23b1 : ((t615.length : Int) != 0) = true := bne_iff_ne.mpr c23
                have c23b2 : ¬ (t615 = []) := fun h_ => c23 (by rw [h_]; rfl)
                refine pts_ 22 94 8388607 ?_
                refine pts_ 23 95 16777215 ?_
                refine pts_ 24 96 33554431 ?_
                refine pts_ 25 97 67108863 ?_
                refine pts_ 26 98 134217727 ?_
                replace H := ip_ H; obtain ⟨c37, H⟩ := H
                have c37b0 := eq_true c37
                have c37b1 := decide_eq_true c37
                replace H := ip_ H; obtain ⟨c38, H⟩ := H
                have c38b0 := eq_true c38
                have c38b1 := decide_eq_true c38
                replace H := ip_ H; obtain ⟨c39, H⟩ := H
                have c39b0 := eq_true c39
                have c39b1 := decide_eq_true c39
                obtain ⟨t626, A400, H⟩ := Option.bind_eq_some_iff.mp H
                have A40 := Aside0.mk A400
                clear A400
                rw [if_pos (by decide)] at H
                replace H := ip_ H; obtain ⟨c42, H⟩ := H
                have c41b0 := eq_true (show (0 : Int) ≤ 4 by decide)
                have c41b1 : decide ((0 : Int) ≤ 4) = true := by decide
                have c42b0 := eq_true c42
                have c42b1 := decide_eq_true c42
                obtain ⟨i053, hi053, _, hsz53, _⟩ := info_parts info5
                obtain ⟨A53, hcut53, hA53, hC53⟩ := print_mid_of (P := Tryz.prog) (Value.int .u8) 0 27 5 .i64 .i64 Tryz.underlying27 hi053 hsz53 A0 c0 l0 (wrap64 (t603 + t602)) (wrap64 ((wrap64 (t603 + t602)) + 4)) c37 c38 c39 HC0.out
                have hleno : ((l0.take ((wrap64 ((wrap64 (t603 + t602)) + 4)) : Int).toNat).drop ((wrap64 (t603 + t602)) : Int).toNat).length = ((wrap64 ((wrap64 (t603 + t602)) + 4)).toNat - (wrap64 (t603 + t602)).toNat) := by rw [List.length_drop, List.length_take]; omega
                have hcut54 := hcut53
                simp only [hleno] at hcut54
                clear hi053 hsz53 hC53
                refine pts_ 27 99 268435455 ?_
                refine pts_ 28 100 536870911 ?_
                refine pts_ 29 101 1073741823 ?_
                refine pts_ 30 102 2147483647 ?_
                refine pts_ 31 103 4294967295 ?_
                refine pts_ 32 104 8589934591 ?_
                refine pts_ 33 105 17179869183 ?_
                refine pts_ 34 106 34359738367 ?_
                refine pts_ 35 107 68719476735 ?_
                refine take_ (i := 36) (N := some 108) (v := ?_) (a' := ?_) (lz_ 42 137438953471) rfl rfl (take_ofW HT_.out HW_.out (by kernel_rfl)) (fun _ _ _ h => h) (Or.inl ⟨by rfl, ?_⟩) hHeld ?_ ?_
                rotate_left
                ·rintro w' ⟨s0, s1, s2⟩
                 have hcv := Kd.C_string (P := Tryz.prog) (A := A53) (c := (c0 - (wrap64 (t603 + t602)).toNat)) Tryz.underlying27 Tryz.underlying5 Tryz.underlying9 (Kd.C_of_reads (h1 := fun _ => rfl) (hA53 _ (Kd.reads_of_C s2)))
                 have hcw := hcv
                 rw [hleno] at hcw
                 go_simp
                 with_reducible rfl
                rotate_left
                ·simp only [Act.put, sT, sZ, sS, i64_w, i32_w]
                 rfl
                refine pts_ 37 109 274877906943 ?_
                refine one_ (i := 38) (N := some 110) (lz_ 42 549755813887) rfl rfl (one_of HT_.out (by kernel_rfl)) (by decide) (fun K hK => ?_)
                refine goes_ Tryz.func119 (by kernel_rfl) rfl #[.slice A116 ((l0.take ((wrap64 (t603 + t602)) : Int).toNat).drop (t603 : Int).toNat).length (c0 - t603.toNat)] (by rfl) rfl rfl (by (try simp only [List.map_toArray, List.map_cons, List.map_nil]); first | done | (rw [hlenq] <;> rfl) | rfl) ?_
                with_reducible refine (spec_Digest.calls kj3 _ _ ((l0.take ((wrap64 (t603 + t602)) : Int).toNat).drop (t603 : Int).toNat) t626 _ ?side1 ?side2 A40.out).mono ?_
                (case side1 => exact cb_ HR608 HB)
                (case side2 => exact HC608.out)
                rintro e w55 ⟨rfl, hb⟩
                refine ⟨_, rfl, ?_⟩
                have n0_ := rb_ HO619 hb
                have n1_ := Aside0.mk (blk_below BK601.out hb)
                have n2_ := Aside0.mk (blk_below BK620.out hb)
                have n3_ := Aside0.mk (below_step HB.out hb)
                clear HO619 BK601 BK620 HB
                have HO619 := n0_
                have BK601 := n1_
                have BK620 := n2_
                have HB := n3_
                clear n0_ n1_ n2_ n3_
                clear hb
                refine hK.out _ _ ⟨bc0_ BK620.out, bc1_ BK620.out, Kd.C_below HR0.out HB.out⟩ (fun hHeld => ?_)
                clear hK K
                refine nos_ 110 ?_
                replace H := it_ H; obtain ⟨c43, H⟩ | ⟨c43, H⟩ := H
                ·have c43b0 : ((strOfNums ((l0.take ((wrap64 ((wrap64 (t603 + t602)) + 4)) : Int).toNat).drop ((wrap64 (t603 + t602)) : Int).toNat)).toList == (t626.extract 0 4).toList) = true := beq_iff_eq.mpr c43
                 have c43b1 : ((strOfNums ((l0.take ((wrap64 ((wrap64 (t603 + t602)) + 4)) : Int).toNat).drop ((wrap64 (t603 + t602)) : Int).toNat)).toList != (t626.extract 0 4).toList) = false := bne_eq_false_iff_eq.mpr c43
                 clear c43
                 replace H := so5_ H; obtain ⟨rfl, rfl, rfl, rfl, rfl⟩ := H
                 refine pts_ 39 111 1099511627775 ?_
                 refine pts_ 40 112 2199023255551 ?_
                 refine pts_ 41 113 4398046511103 ?_
                 refine done_ (done_of HT_.out (by kernel_rfl)) ?_
                 have hz57 := cz2_ BK620
                 have hz58 := cz2_ BK601
                 try go_wp2
                 refine bodyPost_ret (results_list (rs := [.cell 4 37, .tmp 5, .tmp 6, .tmp 7]) rfl (by simp) (.cell gb601 37 #[.int .i64 t609, .string t612] (0, 0) _ rfl (by exact kq_ BK601) Tryz.underlying37 rfl (by kernel_rfl) (.tmp (.tmp (.tmp .nil))))) rfl ?_
                 exact ⟨_, by first | rfl | (simp [errW_none, errW_some] <;> rfl) | (first | rfl | (simp [errW_none, errW_some] <;> rfl)) | (simp [*, errW_none, errW_some] <;> rfl), by (with_reducible repeat (first | apply Kd.R_alloc | apply Kd.R_drewN | apply Kd.R_drew)); exact Kd.R_mono (Kd.R_far (p := ⟨gb601, 1, none⟩) (Kd.R_far (p := ⟨gb601, 0, none⟩) (Kd.R_types HO619.out BK601.out (by decide)) (fun _ hk => hk.2) (.int .i64 t609)) (fun _ hk => hk.2) (.string t612)) (fun _ hk => trivial), bw_ HB⟩
                ·have c43b0 : ((strOfNums ((l0.take ((wrap64 ((wrap64 (t603 + t602)) + 4)) : Int).toNat).drop ((wrap64 (t603 + t602)) : Int).toNat)).toList == (t626.extract 0 4).toList) = false := beq_eq_false_iff_ne.mpr c43
                 have c43b1 : ((strOfNums ((l0.take ((wrap64 ((wrap64 (t603 + t602)) + 4)) : Int).toNat).drop ((wrap64 (t603 + t602)) : Int).toNat)).toList != (t626.extract 0 4).toList) = true := bne_iff_ne.mpr c43
                 refine pts_ 39 111 1099511627775 ?_
                 refine pts_ 40 112 2199023255551 ?_
                 refine pts_ 41 113 4398046511103 ?_
                 exact njs_ (hJ41 [_, _, _, _, _, _, _, _, _, _, _, _, _, _, _, _, _, _, _, _, _, _, _, _, _, _, _, _, _, _, _, _, _, _, _, _, _, _, _, _, _] _ ⟨H, (kr_ HO619.out), (kb_ BK601.out), (kb_ BK620.out), (bw_ HB)⟩)
             ·have c20b0 : (t616 == (((l0.take ((wrap64 (t603 + t602)) : Int).toNat).drop (t603 : Int).toNat).length : Int)) = false := beq_eq_false_iff_ne.mpr c20
              have c20b1 : (t616 != (((l0.take ((wrap64 (t603 + t602)) : Int).toNat).drop (t603 : Int).toNat).length : Int)) = true := bne_iff_ne.mpr c20
              have c20n0 := c20b0
              rw [hlenq] at c20n0
              have c20n1 := c20b1
              rw [hlenq] at c20n1
              refine pts_ 11 83 4095 ?_
              refine pts_ 12 84 8191 ?_
              refine pts_ 13 85 16383 ?_
              refine pts_ 14 86 32767 ?_
              refine pts_ 15 87 65535 ?_
              exact njs_ (hJ15 [_, _, _, _, _, _, _, _, _, _, _, _, _, _, _] _ ⟨H, (kr_ HO619.out), (kb_ BK601.out), (kb_ BK620.out), (bw_ HB)⟩)
         ·rintro s w122 ⟨H, hF0, hF1, hF2, hF3⟩
          have HO619 := Aside0.mk hF0
          have BK601 := Aside0.mk hF1
          have BK620 := Aside0.mk hF2
          have HB := Aside0.mk hF3
          clear hF0 hF1 hF2 hF3
          refine norm_ (a' := ?_) ?_ ?_
          rotate_left
          ·simp only [putAll, Act.put, sT, sZ, sS]
           rfl
          refine pts_ 6 78 127 ?_
          refine uts_ 7 79 255 ?_
          refine uts_ 8 80 511 ?_
          refine pts_ 9 81 1023 ?_
          exact njs_ (hJ9 [_, _, _, _, _, _, _, _, _] _ ⟨H, (kr_ HO619.out), (kb_ BK601.out), (kb_ BK620.out), (bw_ HB)⟩)
        ·rintro s w122 ⟨H, hF0, hF1, hF2, hF3⟩
         have HO619 := Aside0.mk hF0
         have BK601 := Aside0.mk hF1
         have BK620 := Aside0.mk hF2
         have HB := Aside0.mk hF3
         clear hF0 hF1 hF2 hF3
         refine norm_ (a' := ?_) ?_ ?_
         rotate_left
         ·simp only [putAll, Act.put, sT, sZ, sS]
          rfl
         refine pts_ 10 82 2047 ?_
         refine uts_ 11 83 4095 ?_
         refine uts_ 12 84 8191 ?_
         refine uts_ 13 85 16383 ?_
         refine uts_ 14 86 32767 ?_
         refine pts_ 15 87 65535 ?_
         exact njs_ (hJ15 [_, _, _, _, _, _, _, _, _, _, _, _, _, _, _] _ ⟨H, (kr_ HO619.out), (kb_ BK601.out), (kb_ BK620.out), (bw_ HB)⟩)
       ·rintro s w122 ⟨H, hF0, hF1, hF2, hF3⟩
        have HO619 := Aside0.mk hF0
        have BK601 := Aside0.mk hF1
        have BK620 := Aside0.mk hF2
        have HB := Aside0.mk hF3
        clear hF0 hF1 hF2 hF3
        refine norm_ (a' := ?_) ?_ ?_
        rotate_left
        ·simp only [putAll, Act.put, sT, sZ, sS]
         rfl
        refine pts_ 16 88 131071 ?_
        refine uts_ 17 89 262143 ?_
        refine uts_ 18 90 524287 ?_
        refine uts_ 19 91 1048575 ?_
        refine pts_ 20 92 2097151 ?_
        exact njs_ (hJ20 [_, _, _, _, _, _, _, _, _, _, _, _, _, _, _, _, _, _, _, _] _ ⟨H, (kr_ HO619.out), (kb_ BK601.out), (kb_ BK620.out), (bw_ HB)⟩)
      ·rintro s w122 ⟨H, hF0, hF1, hF2, hF3⟩
       have HO619 := Aside0.mk hF0
       have BK601 := Aside0.mk hF1
       have BK620 := Aside0.mk hF2
       have HB := Aside0.mk hF3
       clear hF0 hF1 hF2 hF3
       refine norm_ (a' := ?_) ?_ ?_
       rotate_left
       ·simp only [putAll, Act.put, sT, sZ, sS]
        rfl
       refine pts_ 21 93 4194303 ?_
       refine uts_ 22 94 8388607 ?_
       refine uts_ 23 95 16777215 ?_
       refine uts_ 24 96 33554431 ?_
       refine pts_ 25 97 67108863 ?_
       exact njs_ (hJ25 [_, _, _, _, _, _, _, _, _, _, _, _, _, _, _, _, _, _, _, _, _, _, _, _, _] _ ⟨H, (kr_ HO619.out), (kb_ BK601.out), (kb_ BK620.out), (bw_ HB)⟩)
     ·rintro s w122 ⟨H, hF0, hF1, hF2, hF3⟩
      have HO619 := Aside0.mk hF0
      have BK601 := Aside0.mk hF1
      have BK620 := Aside0.mk hF2
      have HB := Aside0.mk hF3
      clear hF0 hF1 hF2 hF3
      refine norm_ (a' := ?_) ?_ ?_
      rotate_left
      ·simp only [putAll, Act.put, sT, sZ, sS]
       rfl
      refine pts_ 26 98 134217727 ?_
      refine uts_ 27 99 268435455 ?_
      refine uts_ 28 100 536870911 ?_
      refine uts_ 29 101 1073741823 ?_
      refine uts_ 30 102 2147483647 ?_
      refine uts_ 31 103 4294967295 ?_
      refine uts_ 32 104 8589934591 ?_
      refine uts_ 33 105 17179869183 ?_
      refine uts_ 34 106 34359738367 ?_
      refine uts_ 35 107 68719476735 ?_
      refine uts_ 36 108 137438953471 ?_
      refine uts_ 37 109 274877906943 ?_
      refine uts_ 38 110 549755813887 ?_
      refine uts_ 39 111 1099511627775 ?_
      refine uts_ 40 112 2199023255551 ?_
      refine pts_ 41 113 4398046511103 ?_
      exact njs_ (hJ41 [_, _, _, _, _, _, _, _, _, _, _, _, _, _, _, _, _, _, _, _, _, _, _, _, _, _, _, _, _, _, _, _, _, _, _, _, _, _, _, _, _] _ ⟨H, (kr_ HO619.out), (kb_ BK601.out), (kb_ BK620.out), (bw_ HB)⟩)
    ·rintro s w122 ⟨H, hF0, hF1, hF2, hF3⟩
     have HO619 := Aside0.mk hF0
     have BK601 := Aside0.mk hF1
     have BK620 := Aside0.mk hF2
     have HB := Aside0.mk hF3
     clear hF0 hF1 hF2 hF3
     refine norm_ (a' := ?_) ?_ ?_
     rotate_left
     ·simp only [putAll, Act.put, sT, sZ, sS]
      rfl
     obtain ⟨y642, hy642⟩ : ∃ y_ : List ByteArray, y_ = ([] : List ByteArray) := ⟨_, rfl⟩
     rw [← hy642] at H
     have Ny642 := Aside0.mk hy642
     clear hy642
     replace H := so5_ H; obtain ⟨rfl, rfl, rfl, rfl, rfl⟩ := H
     refine done_ (done_of HT_.out (by kernel_rfl)) ?_
     try go_wp2_with (first | ((with_reducible refine gd_ 115 ?_); (try (refine gate_guard (by rfl) ?_; dsimp only)); refine rl_ Kd.string 9 115 ([] : List ByteArray) [] ?_; intro v643 w123 ho124 hb hg_ hnew_; clear hg_ hnew_; (first | rw [← Ny642.out] at ho124 | (simp only [Int.reduceToNat] at ho124; rw [← Ny642.out] at ho124)); have HO644 := Aside0.mk (Kd.R_lower (Kd.R_new' ho124 (lt_ HO619)) (sz_ HB)); replace HO619 := re_ HO619 ho124 hb; replace BK601 := kl_ BK601 hb; replace BK620 := kl_ BK620 hb; replace HB := ss_ HB hb; clear hb ho124; have hz125 := cz2_ BK601))
     refine bodyPost_ret (results_list (rs := [.cell 4 37, .tmp 5, .tmp 6, .tmp 7]) rfl (by simp) (.cell gb601 37 #[.int .i64 0, .string (⟨#[]⟩ : ByteArray)] (0, 0) _ rfl (by exact kq_ BK601) Tryz.underlying37 rfl (by kernel_rfl) (.tmp (.tmp (.tmp .nil))))) rfl ?_
     exact ⟨_, e2_, by (with_reducible repeat (first | apply Kd.R_alloc | apply Kd.R_drewN | apply Kd.R_drew)); exact Kd.R_mono (Kd.R_far (p := ⟨gb601, 1, none⟩) (Kd.R_far (p := ⟨gb601, 0, none⟩) (Kd.R_types HO644.out BK601.out (by decide)) (fun _ hk => hk.2) (.int .i64 0)) (fun _ hk => hk.2) (.string (⟨#[]⟩ : ByteArray))) (fun _ hk => trivial), bw_ HB⟩
end Go.Proofs.YtnlndmoecljicaaGreat.Q
end
section
namespace Go.Proofs.YtnlndmoecljicaaGreat.Q
open Go.RowKit Go.Proofs.YtnlndmoecljicaaGreat.B Go.Proofs.YtnlndmoecljicaaGreatW.PrintWords Go.Proofs.YtnlndmoecljicaaGreatW.PrintMore
set_option linter.unusedVariables false
set_option linter.unusedSimpArgs false
theorem nums_bytes (s : ByteArray) : strOfNums (bytesOf s) = s := bytesOf_inj (bytes_nums _ (inB_text s))
theorem sum_iff {G : List Int} (hG : InB G) (B : List Int) : (strOfNums G).toList = ((sha B).extract 0 4).toList ↔ G = sumB B := by
 unfold sumB
 constructor
 ·intro h
  rw [← bytes_nums G hG, bytes_ext h]
 ·intro h
  rw [h, nums_bytes]
set_option maxHeartbeats 1000000 in
theorem getCommitS (b : List Int) (hb : InB b) (hl : b.length ≤ 10000000) (at_ : Int) (h0 : -9223372036854775808 ≤ at_) (h1 : at_ ≤ 9223372036854775807) :
  ∃ n s t nx ok, Ev (fun q => spec_GetCommit.f q b at_) (n, s, t, nx, ok) ∧ t.length ≤ 200 ∧ CommitOf b at_ n s t nx ok := by
 obtain ⟨m, x, ok, e2, _, hN⟩ := getNum_both b hb (by omega) at_ h0 h1
 have jT : ∀ m x : Int, Ev (fun q => spec_GetCommit.j0 q b at_ m x true) (0, (⟨#[]⟩ : ByteArray), ([] : List ByteArray), at_, false) := fun m x => by
  refine Ev.step (fun q => by simp only [spec_GetCommit.j0]; rfl) ?_
  exact Ev.pos trivial (Ev.now _)
 have bad : ∀ P : Prop, (∀ (a N : Nat) (s' : ByteArray) (t' : List ByteArray) r, at_ = (a : Int) → b.drop a = commitB N s' t' ++ r → headOk (N : Int) s' = true → 1 ≤ t'.length → t'.length ≤ 200 → (∀ x ∈ t', x.size ≤ 1000000000) → False) → CommitOf b at_ 0 ⟨#[]⟩ [] at_ false := fun _ h => ⟨fun q => (by cases q), fun _ => ⟨rfl, rfl, rfl, rfl, h⟩⟩
 unfold spec_GetCommit.f
 cases ok with
 | false =>
  obtain ⟨rfl, rfl, h3⟩ := hN.1 rfl
  refine ⟨0, ⟨#[]⟩, [], at_, false, Ev.bind e2 (Ev.neg (by simp) (jT _ _)), by simp, bad True fun a N s' t' r ha hr _ _ _ _ => ?_⟩
  unfold commitB at hr
  rw [List.append_assoc] at hr
  refine h3 a _ _ ha hr ?_
  have := congrArg List.length hr
  simp only [List.length_append, List.length_drop] at this
  omega
 | true =>
  obtain ⟨a, m, rfl, rfl, hm, hd, rfl, hle⟩ := hN.2 rfl
  have hp1 := num_pos m
  obtain ⟨p, hp⟩ : ∃ p, a + (num m).length = p := ⟨_, rfl⟩
  rw [hp] at e2 hd hle
  clear hN
  have cut : ∀ (N : Nat) (s' : ByteArray) (t' : List ByteArray) r, b.drop a = commitB N s' t' ++ r → m = (bodyB N s' t').length ∧ b.drop p = bodyB N s' t' ++ (sumB (bodyB N s' t') ++ r) := fun N s' t' r hr => by
   unfold commitB at hr
   rw [hd, List.append_assoc, List.append_assoc] at hr
   exact num_inj _ _ _ _ hr
  have w1 : wrap64 ((b.length : Int) - (p : Int)) = (b.length : Int) - (p : Int) := w64 (by omega) (by omega)
  have w2 : wrap64 ((b.length : Int) - (p : Int) - 4) = (b.length : Int) - (p : Int) - 4 := w64 (by omega) (by omega)
  by_cases hg : (m : Int) > (b.length : Int) - (p : Int) - 4
  ·refine ⟨0, ⟨#[]⟩, [], (a : Int), false, ?_, by simp, bad True fun a' N s' t' r ha hr _ _ _ _ => ?_⟩
   ·refine Ev.bind e2 (Ev.pos rfl ?_)
    simp only [w1, w2, decide_eq_true hg]
    exact jT _ _
   ·obtain rfl : a = a' := by omega
    obtain ⟨k1, k2⟩ := cut N s' t' r hr
    have := congrArg List.length k2
    simp only [List.length_append, List.length_drop, sumB_length] at this
    omega
  ·have w3 : wrap64 ((p : Int) + (m : Int)) = ((p + m : Nat) : Int) := by
    rw [w64 (by omega) (by omega)]
    omega
   have w4 : wrap64 (((p + m : Nat) : Int) + 4) = ((p + m + 4 : Nat) : Int) := by
    rw [w64 (by omega) (by omega)]
    omega
   have t1 : ((p + m : Nat) : Int).toNat = p + m := Int.toNat_natCast _
   have t2 : (p : Int).toNat = p := Int.toNat_natCast _
   have t3 : ((p + m + 4 : Nat) : Int).toNat = p + m + 4 := Int.toNat_natCast _
   obtain ⟨B, hB⟩ : ∃ B, (b.take (p + m)).drop p = B := ⟨_, rfl⟩
   have hB2 : B = (b.drop p).take m := by
    rw [← hB, List.drop_take]
    congr 1
    omega
   have hBl : B.length = m := by
    rw [hB2, List.length_take, List.length_drop]
    omega
   have hBb : InB B := by
    rw [hB2]
    exact inB_take (inB_drop hb p) m
   obtain ⟨G, hG⟩ : ∃ G, (b.take (p + m + 4)).drop (p + m) = G := ⟨_, rfl⟩
   have hGb : InB G := by
    rw [← hG]
    exact inB_drop (inB_take hb _) _
   have hBG : b.drop p = B ++ (G ++ b.drop (p + m + 4)) := by
    have i1 : b.drop p = (b.drop p).take m ++ (b.drop p).drop m := (List.take_append_drop _ _).symm
    have i2 : b.drop (p + m) = (b.drop (p + m)).take 4 ++ (b.drop (p + m)).drop 4 := (List.take_append_drop _ _).symm
    have i3 : G = (b.drop (p + m)).take 4 := by
     rw [← hG, List.drop_take]
     congr 1
     omega
    rw [List.drop_drop] at i1 i2
    rw [← i3] at i2
    rw [← hB2, i2] at i1
    exact i1
   have cutB : ∀ (N : Nat) (s' : ByteArray) (t' : List ByteArray) r, b.drop a = commitB N s' t' ++ r → B = bodyB N s' t' ∧ G = sumB (bodyB N s' t') := fun N s' t' r hr => by
    obtain ⟨k1, k2⟩ := cut N s' t' r hr
    rw [hBG] at k2
    obtain ⟨k3, k4⟩ := List.append_inj k2 (by rw [hBl, k1])
    refine ⟨k3, (List.append_inj k4 ?_).1⟩
    rw [sumB_length, ← hG, List.length_drop, List.length_take]
    omega
   have start : ∀ r, Ev (fun q => (spec_GetNum.f q B 0).bind fun bt609 => ((spec_GetText.f q B bt609.2.1).bind fun bt612 => ((spec_GetTexts.f q B bt612.2.1).bind fun bt615 => (if bt609.2.2 = true then (if bt612.2.2 = true then (if bt615.2.2 = true then (if bt615.2.1 = (B.length : Int) then ((spec_HeadOk.f bt609.1 bt612.1).bind fun t621 => (if t621 = true then (if (bt615.1.length : Int) = 0 then (some (0, (⟨#[]⟩ : ByteArray), (([] : List ByteArray)), (a : Int), false)) else ((spec_Digest.f q B).bind fun t626 => (if 4 ≤ (t626.size : Int) then (if (strOfNums G).toList = (t626.extract 0 4).toList then (some (bt609.1, bt612.1, bt615.1, ((p + m + 4 : Nat) : Int), true)) else (some (0, (⟨#[]⟩ : ByteArray), (([] : List ByteArray)), (a : Int), false))) else (none)))) else (some (0, (⟨#[]⟩ : ByteArray), (([] : List ByteArray)), (a : Int), false)))) else (some (0, (⟨#[]⟩ : ByteArray), (([] : List ByteArray)), (a : Int), false))) else (some (0, (⟨#[]⟩ : ByteArray), (([] : List ByteArray)), (a : Int), false))) else (some (0, (⟨#[]⟩ : ByteArray), (([] : List ByteArray)), (a : Int), false))) else (some (0, (⟨#[]⟩ : ByteArray), (([] : List ByteArray)), (a : Int), false)))))) r → Ev (fun q => (spec_GetNum.f q b (a : Int)).bind fun bt602 => (if bt602.2.2 = true then (spec_GetCommit.j0 q b (a : Int) bt602.1 bt602.2.1 (decide (bt602.1 > (wrap64 ((wrap64 ((b.length : Int) - bt602.2.1)) - 4))))) else (spec_GetCommit.j0 q b (a : Int) bt602.1 bt602.2.1 true))) r := fun r hr => by
    refine Ev.bind e2 (Ev.pos rfl ?_)
    simp only [w1, w2, decide_eq_false hg]
    have i1 : (0 : Int) ≤ ((p + m : Nat) : Int) := by omega
    have i2 : ((p + m : Nat) : Int) ≤ ((p + m + 4 : Nat) : Int) := by omega
    have i3 : ((p + m + 4 : Nat) : Int) ≤ (b.length : Int) := by omega
    have i4 : (0 : Nat) ≤ 4 := by decide
    refine Ev.step (fun q => by simp only [spec_GetCommit.j0, w3, w4, t1, t2, t3, hB, hG, if_pos i1, if_pos i2, if_pos i3, if_pos i4]; rfl) ?_
    exact Ev.neg (by simp) (Ev.pos (by omega) (Ev.pos (by omega) (Ev.pos (by omega) hr)))
   rcases num_step B hBb (by omega) 0 (by omega) with ⟨g0, _, z0⟩ | ⟨v0, p1, q0, l0, y0, r0, g0, _⟩
   ·obtain ⟨u1, x1, o1, s1, r1⟩ := text_any B hBb (by omega) 0 (by omega)
    obtain ⟨u2, x2, o2, s2, r2⟩ := texts_any B hBb (by omega) x1 (by omega)
    refine ⟨0, ⟨#[]⟩, [], (a : Int), false, start _ (Ev.bind g0 (Ev.bind s1 (Ev.bind s2 (Ev.neg (by simp) (Ev.now _))))), by simp, bad True fun a' N s' t' r ha hr hk c1 c2 c3 => ?_⟩
    obtain rfl : a = a' := by omega
    have hh := headOk_parts hk
    exact z0 N _ (show B.drop 0 = num N ++ (textB s' ++ textsB t') from (cutB N s' t' r hr).1) (by omega)
   ·rcases text_step B hBb (by omega) p1 (by omega) with ⟨g1, _, z1⟩ | ⟨v1, p2, q1, l1, y1, r1, g1, _⟩
    ·obtain ⟨u2, x2, o2, s2, r2⟩ := texts_any B hBb (by omega) 0 (by omega)
     refine ⟨0, ⟨#[]⟩, [], (a : Int), false, start _ (Ev.bind g0 (Ev.bind g1 (Ev.bind s2 (Ev.pos rfl (Ev.neg (by simp) (Ev.now _)))))), by simp, bad True fun a' N s' t' r ha hr hk c1 c2 c3 => ?_⟩
     obtain rfl : a = a' := by omega
     have hh := headOk_parts hk
     have d0 : B.drop 0 = num N ++ (textB s' ++ textsB t') := (cutB N s' t' r hr).1
     have d1 := (num_inj _ _ _ _ (y0.symm.trans d0)).2
     exact z1 s' _ d1 (by omega)
    ·rcases texts_step B hBb (by omega) p2 (by omega) with ⟨g2, _, z2⟩ | ⟨v2, p3, q2, s2, l2, y2, r2, g2, _⟩
     ·refine ⟨0, ⟨#[]⟩, [], (a : Int), false, start _ (Ev.bind g0 (Ev.bind g1 (Ev.bind g2 (Ev.pos rfl (Ev.pos rfl (Ev.neg (by simp) (Ev.now _))))))), by simp, bad True fun a' N s' t' r ha hr hk c1 c2 c3 => ?_⟩
      obtain rfl : a = a' := by omega
      have d0 : B.drop 0 = num N ++ (textB s' ++ textsB t') := (cutB N s' t' r hr).1
      have d1 := (num_inj _ _ _ _ (y0.symm.trans d0)).2
      have d2 := (textB_inj (y1.symm.trans d1)).2
      exact z2 t' [] (by rw [List.append_nil]; exact d2) c2 c3
     ·have hBB : B = bodyB v0 v1 v2 ++ B.drop p3 := by
       have e : B.drop 0 = num v0 ++ (textB v1 ++ (textsB v2 ++ B.drop p3)) := by rw [y0, y1, y2]
       unfold bodyB
       simp only [List.append_assoc]
       exact e
      have same : ∀ (N : Nat) (s' : ByteArray) (t' : List ByteArray) r, b.drop a = commitB N s' t' ++ r → v0 = N ∧ v1 = s' ∧ v2 = t' ∧ B.drop p3 = [] ∧ G = sumB B := fun N s' t' r hr => by
       obtain ⟨k1, k2⟩ := cutB N s' t' r hr
       obtain ⟨h1, h2, h3, h4⟩ := bodyB_inj (show bodyB v0 v1 v2 ++ B.drop p3 = bodyB N s' t' ++ [] by rw [List.append_nil, ← hBB, k1])
       exact ⟨h1, h2, h3, h4, by rw [k1]; exact k2⟩
      have hD := spec_Digest_ev B (by omega) hBb
      have hsz : (sha B).size = 32 := sha_size _
      by_cases hp3 : (p3 : Int) = (B.length : Int)
      ·have hnil : B.drop p3 = [] := List.drop_eq_nil_of_le (by omega)
       rw [hnil, List.append_nil] at hBB
       by_cases hk : headOk (v0 : Int) v1 = true
       ·by_cases hz : (v2.length : Int) = 0
        ·refine ⟨0, ⟨#[]⟩, [], (a : Int), false, start _ (Ev.bind g0 (Ev.bind g1 (Ev.bind g2 (Ev.pos rfl (Ev.pos rfl (Ev.pos rfl (Ev.pos hp3 (Ev.bind (Ev.const (spec_HeadOk_eq _ _)) (Ev.pos hk (Ev.pos hz (Ev.now _))))))))))), by simp, bad True fun a' N s' t' r ha hr hk2 c1 c2 c3 => ?_⟩
         obtain rfl : a = a' := by omega
         obtain ⟨_, _, rfl, _⟩ := same N s' t' r hr
         omega
        ·by_cases hsum : (strOfNums G).toList = ((sha B).extract 0 4).toList
         ·have hGs := (sum_iff hGb B).1 hsum
          have hlen : (commitB v0 v1 v2).length = (num m).length + m + 4 := by rw [commitB_length, ← hBB, hBl]
          refine ⟨(v0 : Int), v1, v2, ((p + m + 4 : Nat) : Int), true, start _ (Ev.bind g0 (Ev.bind g1 (Ev.bind g2 (Ev.pos rfl (Ev.pos rfl (Ev.pos rfl (Ev.pos hp3 (Ev.bind (Ev.const (spec_HeadOk_eq _ _)) (Ev.pos hk (Ev.neg hz (Ev.bind hD (Ev.pos (by omega) (Ev.pos hsum (Ev.now _)))))))))))))), q2, fun _ => ⟨a, v0, rfl, rfl, hk, by omega, ?_, ?_, ?_⟩, fun h => (by cases h)⟩
          ·rw [hlen, show a + ((num m).length + m + 4) = p + m + 4 by omega, hd, hBG, hGs]
           unfold commitB
           rw [← hBB, hBl]
           simp only [List.append_assoc]
          ·rw [hlen]
           congr 1
           omega
          ·rw [hlen]
           omega
         ·refine ⟨0, ⟨#[]⟩, [], (a : Int), false, start _ (Ev.bind g0 (Ev.bind g1 (Ev.bind g2 (Ev.pos rfl (Ev.pos rfl (Ev.pos rfl (Ev.pos hp3 (Ev.bind (Ev.const (spec_HeadOk_eq _ _)) (Ev.pos hk (Ev.neg hz (Ev.bind hD (Ev.pos (by omega) (Ev.neg hsum (Ev.now _)))))))))))))), by simp, bad True fun a' N s' t' r ha hr hk2 c1 c2 c3 => ?_⟩
          obtain rfl : a = a' := by omega
          obtain ⟨_, _, _, _, h5⟩ := same N s' t' r hr
          exact hsum ((sum_iff hGb B).2 h5)
       ·refine ⟨0, ⟨#[]⟩, [], (a : Int), false, start _ (Ev.bind g0 (Ev.bind g1 (Ev.bind g2 (Ev.pos rfl (Ev.pos rfl (Ev.pos rfl (Ev.pos hp3 (Ev.bind (Ev.const (spec_HeadOk_eq _ _)) (Ev.neg hk (Ev.now _)))))))))), by simp, bad True fun a' N s' t' r ha hr hk2 c1 c2 c3 => ?_⟩
        obtain rfl : a = a' := by omega
        obtain ⟨rfl, rfl, _⟩ := same N s' t' r hr
        exact hk hk2
      ·refine ⟨0, ⟨#[]⟩, [], (a : Int), false, start _ (Ev.bind g0 (Ev.bind g1 (Ev.bind g2 (Ev.pos rfl (Ev.pos rfl (Ev.pos rfl (Ev.neg hp3 (Ev.now _)))))))), by simp, bad True fun a' N s' t' r ha hr hk2 c1 c2 c3 => ?_⟩
       obtain rfl : a = a' := by omega
       obtain ⟨_, _, _, h4, _⟩ := same N s' t' r hr
       have := congrArg List.length h4
       rw [List.length_drop] at this
       simp only [List.length_nil] at this
       omega
theorem commit_small {b : List Int} {a N : Nat} {s : ByteArray} {t : List ByteArray} {r : List Int} (hl : b.length ≤ 10000000) (h : b.drop a = commitB N s t ++ r) : ∀ x ∈ t, x.size ≤ 1000000000 := fun x hx => by
 have h1 := congrArg List.length h
 rw [List.length_drop, List.length_append, commitB_length] at h1
 have h2 := bodyB_ge N s t
 have h3 := total_mem hx
 omega
theorem getCommit_both (b : List Int) (hb : InB b) (hl : b.length ≤ 10000000) (at_ : Int) (h0 : -9223372036854775808 ≤ at_) (h1 : at_ ≤ 9223372036854775807) :
  ∃ n s t nx ok, Ev (fun q => spec_GetCommit.f q b at_) (n, s, t, nx, ok) ∧ Ev (fun q => impl_GetCommit.f q b at_) (n, s, t, nx, ok) ∧ t.length ≤ 200 := by
 obtain ⟨n, s, t, nx, ok, e1, ht, c1, c2⟩ := getCommitI b hb hl at_ h0 h1
 obtain ⟨n', s', t', nx', ok', e2, ht', d1, d2⟩ := getCommitS b hb hl at_ h0 h1
 cases ok with
 | true =>
  obtain ⟨a, N, rfl, rfl, hk, hz, hd, rfl, hle⟩ := c1 rfl
  cases ok' with
  | true =>
   obtain ⟨a', N', ha, rfl, hk', hz', hd', rfl, hle'⟩ := d1 rfl
   obtain rfl : a = a' := by omega
   obtain ⟨rfl, rfl, rfl, _⟩ := commitB_inj (hd.symm.trans hd')
   exact ⟨_, _, _, _, _, e2, e1, ht⟩
  | false => exact absurd ((d2 rfl).2.2.2.2 a N s t _ rfl hd hk hz ht (commit_small hl hd)) id
 | false =>
  obtain ⟨rfl, rfl, rfl, rfl, c3⟩ := c2 rfl
  cases ok' with
  | true =>
   obtain ⟨a', N', rfl, rfl, hk', hz', hd', rfl, hle'⟩ := d1 rfl
   exact absurd (c3 a' N' s' t' _ rfl hd' hk' hz' ht' (commit_small hl hd')) id
  | false =>
   obtain ⟨rfl, rfl, rfl, rfl, _⟩ := d2 rfl
   exact ⟨_, _, _, _, _, e2, e1, ht⟩
end Go.Proofs.YtnlndmoecljicaaGreat.Q
end
section
namespace Go.Proofs.YtnlndmoecljicaaGreat.Q
open Go.RowKit Go.Proofs.YtnlndmoecljicaaGreatW.PrintWords Go.Proofs.YtnlndmoecljicaaGreatW.PrintLast Go.Proofs.YtnlndmoecljicaaGreatW.PrintMore
attribute [local go_sem] max2_int min2_int max_two min_two max_three min_three max_four min_four   -- for this text's walks alone
set_option linter.unusedVariables false
set_option linter.unusedSimpArgs false
def impl_rootOf.f : Nat → List ByteArray → Option (ByteArray)
 | 0, _ => none
 | k + 1, l0 => if (l0.length : Int) = 0 then ((impl_Digest.f ([] : List Int)).bind fun t601 => (some t601)) else (if (l0.length : Int) = 1 then (if 0 < (l0.length : Int) then ((impl_LeafHash.f (rdOf ByteArray.empty l0 0)).bind fun t603 => (some t603)) else (none)) else ((impl_half.f k (l0.length : Int)).bind fun t604 => (if 0 ≤ t604 then (if t604 ≤ (l0.length : Int) then ((impl_rootOf.f k (l0.take (t604 : Int).toNat)).bind fun t606 => ((impl_rootOf.f k (l0.drop (t604 : Int).toNat)).bind fun t608 => ((impl_NodeHash.f t606 t608).bind fun t609 => (some t609)))) else (none)) else (none))))
def impl_rootOf.T7 : Bool × List (List Nat × List Nat) := (true, [([], []), ([], []), ([0, 1], [0, 1]), ([2], [2]), ([], []), ([], []), ([4, 5], [4, 5]), ([6, 3], [6]), ([3, 7, 7], [3, 7]), ([8, 8, 0, 1, 2, 3, 4, 5, 6, 7, 8], [8])])
def impl_rootOf.B7 : List Nat := [0, 0, 3, 7, 0, 0, 48, 127, 255, 511]
theorem impl_rootOf.tab7 : rtab .any (opsOf Tryz.f103 7) = impl_rootOf.T7 := by kernel_rfl
theorem impl_rootOf.bits7 : waitsOk impl_rootOf.T7.2 impl_rootOf.B7 = true := by kernel_rfl
set_option maxHeartbeats 8000000 in
set_option maxRecDepth 100000 in
theorem impl_rootOf.calls (k : Nat) : ∀ (A0 : Option Addr) (c0 : Nat) (l0 : List ByteArray) (r : ByteArray) (w : World) (hr0 : Kd.C Kd.string w A0 l0.length l0) (hc0 : l0.length ≤ c0) (h : impl_rootOf.f k l0 = some r),
  Calls Tryz.prog 103 #[.slice A0 l0.length c0] w fun e w' => e = .returned (.string r) ∧ Below w.heap.size w w' := by
 induction k using Nat.strongRecOn with
 | _ k ih =>
 intro A0 c0 l0 r w hr0 hc0 h
 cases k with
 | zero => exact absurd h (by simp [impl_rootOf.f])
 | succ k =>
 simp only [impl_rootOf.f] at h
 have HR0 := Aside0.mk hr0
 have HC0 := Aside0.mk hc0
 clear hr0 hc0
 have HB := Aside0.mk (Below.refl w.heap.size w)
 have H : (if (l0.length : Int) = 0 then ((impl_Digest.f ([] : List Int)).bind fun t601 => (some t601)) else (if (l0.length : Int) = 1 then (if 0 < (l0.length : Int) then ((impl_LeafHash.f (rdOf ByteArray.empty l0 0)).bind fun t603 => (some t603)) else (none)) else ((impl_half.f k (l0.length : Int)).bind fun t604 => (if 0 ≤ t604 then (if t604 ≤ (l0.length : Int) then ((impl_rootOf.f k (l0.take (t604 : Int).toNat)).bind fun t606 => ((impl_rootOf.f k (l0.drop (t604 : Int).toNat)).bind fun t608 => ((impl_NodeHash.f t606 t608).bind fun t609 => (some t609)))) else (none)) else (none))))) = some r := h
 clear h
 replace H := it_ H; obtain ⟨c2, H⟩ | ⟨c2, H⟩ := H
 ·have c2b0 : ((l0.length : Int) == 0) = true := beq_iff_eq.mpr c2
  have c2b1 : ((l0.length : Int) != 0) = false := bne_eq_false_iff_eq.mpr c2
  clear c2
  replace H := bi_ H; obtain ⟨t601, A3, H⟩ := H
  obtain rfl := Option.some.inj H
  go_enter Tryz.func103, Tryz.ntmps103
  go_wp2_with (first | ((with_reducible refine gk_ 133 ?_); refine gl_ 8 Tryz.func133 #[.slice none 0 0] ?_; (refine (impl_Digest.calls _ _ ([] : List Int) t601 _ ?side1 ?side2 A3.out).mono ?_); (case side1 => exact Kd.C_nil _ _); (case side2 => exact Nat.le_refl _); rintro e w4 ⟨rfl, hb⟩; refine ⟨_, rfl, ?_⟩; replace HB := ss_ HB hb; clear hb))
  go_ret
  exact ⟨e2_, bw_ HB⟩
 ·have c2b0 : ((l0.length : Int) == 0) = false := beq_eq_false_iff_ne.mpr c2
  have c2b1 : ((l0.length : Int) != 0) = true := bne_iff_ne.mpr c2
  have c2b2 : ¬ (l0 = []) := fun h_ => c2 (by rw [h_]; rfl)
  replace H := it_ H; obtain ⟨c5, H⟩ | ⟨c5, H⟩ := H
  ·have c5b0 : ((l0.length : Int) == 1) = true := beq_iff_eq.mpr c5
   have c5b1 : ((l0.length : Int) != 1) = false := bne_eq_false_iff_eq.mpr c5
   clear c5
   replace H := ip_ H; obtain ⟨c6, H⟩ := H
   have c6b0 := decide_eq_true c6
   have c6b1 : decide (0 < l0.length) = true := decide_eq_true (by omega)
   clear c6
   replace H := bi_ H; obtain ⟨t603, A7, H⟩ := H
   obtain rfl := Option.some.inj H
   have p602 : 0 ≤ (0 : Int) := (by omega)
   have q602 : 0 < (l0.length : Int) := of_decide_eq_true as_
   obtain ⟨ad602, e602, hx602_0⟩ := Kd.at_string HR0.out 0 p602 q602
   cases e602
   have qi602 : (0 < l0.length) = True := eq_true (by omega)
   (try rw [show ((0 : Int)).toNat = 0 from rfl] at hx602_0)
   (try rw [Addr.add_zero'] at hx602_0)
   replace p602 := eq_true p602
   replace q602 := eq_true q602
   go_enter Tryz.func103, Tryz.ntmps103
   go_wp2_with (first | ((with_reducible refine gq_ 134 14 ?_); refine gc_ 14 Tryz.func134 (impl_LeafHash.calls (rdOf ByteArray.empty l0 0) t603 _ A7.out) ?_; rintro e w8 ⟨rfl, hb⟩; refine ⟨_, rfl, ?_⟩; replace HB := ss_ HB hb; clear hb))
   go_ret
   exact ⟨e2_, bw_ HB⟩
  ·have c5b0 : ((l0.length : Int) == 1) = false := beq_eq_false_iff_ne.mpr c5
   have c5b1 : ((l0.length : Int) != 1) = true := bne_iff_ne.mpr c5
   replace H := bi_ H; obtain ⟨t604, A9, H⟩ := H
   replace H := ip_ H; obtain ⟨c10, H⟩ := H
   have c10b0 := eq_true c10
   have c10b1 := decide_eq_true c10
   clear c10
   replace H := ip_ H; obtain ⟨c11, H⟩ := H
   have c11b0 := eq_true c11
   have c11b1 := decide_eq_true c11
   clear c11
   replace H := bi_ H; obtain ⟨t606, A12, H⟩ := H
   have c13b0 := eq_true (of_decide_eq_true as_ : 0 ≤ t604)
   have c14b0 := eq_true (of_decide_eq_true as_ : t604 ≤ (l0.length : Int))
   replace H := bi_ H; obtain ⟨t608, A15, H⟩ := H
   replace H := bi_ H; obtain ⟨t609, A16, H⟩ := H
   obtain rfl := Option.some.inj H
   go_enter Tryz.func103, Tryz.ntmps103
   try go_wp2_with (first | ((with_reducible refine gq_ 135 17 ?_); refine gc_ 17 Tryz.func135 (impl_half.calls k (l0.length : Int) t604 _ A9.out) ?_; rintro e w17 ⟨rfl, hb⟩; refine ⟨_, rfl, ?_⟩; replace HB := ss_ HB hb; clear hb))
   replace HB := Aside0.mk (below_drew1 HB.out)
   obtain ⟨i019, hi019, _, hsz19, _⟩ := info_parts info9
   obtain ⟨hcut19, hA19, hC19⟩ := print_take_of (P := Tryz.prog) Value.string (⟨#[]⟩ : ByteArray) 22 9 .i64 Tryz.underlying22 hi019 hsz19 A0 c0 l0 t604 (of_decide_eq_true as_) (of_decide_eq_true as_) HC0.out
   have HR605 := Aside0.mk (Kd.C_of_reads (h1 := fun _ => rfl) (hA19 _ (Kd.reads_of_C HR0.out)))
   have HC605 := Aside0.mk hC19
   clear hA19 hC19 hi019 hsz19
   obtain ⟨i020, hi020, _, hsz20, _⟩ := info_parts info9
   obtain ⟨A20, hcut20, hA20, hC20⟩ := print_drop_of (P := Tryz.prog) Value.string (⟨#[]⟩ : ByteArray) 22 9 .i64 Tryz.underlying22 hi020 hsz20 A0 c0 l0 t604 (of_decide_eq_true as_) (of_decide_eq_true as_) HC0.out
   have HR607 := Aside0.mk (Kd.C_of_reads (h1 := fun _ => rfl) (hA20 _ (Kd.reads_of_C HR0.out)))
   have HC607 := Aside0.mk hC20
   clear hA20 hC20 hi020 hsz20
   refine start_ (n := 10) (S := fun w' => True) (ds := []) (lz_ 10 0) (by kernel_rfl) rfl rfl trivial (fun hHeld => ?_); refine with_tabW impl_rootOf.tab7 impl_rootOf.bits7 (fun HT_ HW_ => ?_)
   generalize w17.drew = w18 at HB HR605 HR607 hHeld ⊢
   refine pt_ 0 18 1 ?_
   refine pt_ 1 19 3 ?_
   refine pt_ 2 20 7 ?_
   refine pt_ 4 22 23 ?_
   refine pt_ 5 23 55 ?_
   refine pt_ 6 24 119 ?_
   refine one_ (i := 3) (N := some 21) (lz_ 10 127) rfl rfl (one_of HT_.out (by kernel_rfl)) (by decide) (fun K hK => ?_)
   refine goes_ Tryz.func103 (by kernel_rfl) rfl #[.slice A0 (l0.take (t604 : Int).toNat).length c0] (by rfl) rfl rfl (by (try simp only [List.map_toArray, List.map_cons, List.map_nil]); first | done | (rw [show (l0.take (t604 : Int).toNat).length = t604.toNat from (by rw [List.length_take]; have h_ : (t604 : Int) ≤ (l0.length : Int) := of_decide_eq_true as_; omega)] <;> rfl) | rfl | (simp only [List.length_drop, List.length_take]; rfl)) ?_
   with_reducible refine (ih k (by omega) _ _ (l0.take (t604 : Int).toNat) t606 _ ?side1 ?side2 A12.out).mono ?_
   (case side1 => exact cb_ HR605 HB)
   (case side2 => exact HC605.out)
   rintro e w21 ⟨rfl, hb⟩
   refine ⟨_, rfl, ?_⟩
   replace HB := ss_ HB hb
   clear hb
   refine hK.out _ _ trivial (fun hHeld => ?_)
   clear hK K
   refine no_ 21 ?_
   refine one_ (i := 7) (N := some 25) (lz_ 10 255) rfl rfl (one_of HT_.out (by kernel_rfl)) (by decide) (fun K hK => ?_)
   refine goes_ Tryz.func103 (by kernel_rfl) rfl #[.slice A20 (l0.drop (t604 : Int).toNat).length (c0 - t604.toNat)] (by rfl) rfl rfl (by (try simp only [List.map_toArray, List.map_cons, List.map_nil]); first | done | (rw [show (l0.drop (t604 : Int).toNat).length = (l0.length - t604.toNat) from List.length_drop] <;> rfl) | rfl | (simp only [List.length_drop, List.length_take]; rfl)) ?_
   with_reducible refine (ih k (by omega) _ _ (l0.drop (t604 : Int).toNat) t608 _ ?side1 ?side2 A15.out).mono ?_
   (case side1 => exact cb_ HR607 HB)
   (case side2 => exact HC607.out)
   rintro e w22 ⟨rfl, hb⟩
   refine ⟨_, rfl, ?_⟩
   replace HB := ss_ HB hb
   clear hb
   refine hK.out _ _ trivial (fun hHeld => ?_)
   clear hK K
   refine no_ 25 ?_
   refine one_ (i := 8) (N := some 26) (lz_ 10 511) rfl rfl (one_of HT_.out (by kernel_rfl)) (by decide) (fun K hK => ?_)
   refine gf_ Tryz.func136 (impl_NodeHash.calls t606 t608 t609 _ A16.out) ?_
   rintro e w23 ⟨rfl, hb⟩
   refine ⟨_, rfl, ?_⟩
   replace HB := ss_ HB hb
   clear hb
   refine hK.out _ _ trivial (fun hHeld => ?_)
   clear hK K
   refine no_ 26 ?_
   refine pt_ 9 2 1023 ?_
   refine done_ (done_of HT_.out (by kernel_rfl)) ?_
   try go_wp2
   go_ret
   exact ⟨e2_, bw_ HB⟩
def spec_l6Root.f : Nat → List ByteArray → Option (ByteArray)
 | 0, _ => none
 | k + 1, l0 => if (l0.length : Int) = 0 then ((spec_Digest.f k (([] : List Int))).bind fun t604 => (some t604)) else (if (l0.length : Int) = 1 then (if 0 < (l0.length : Int) then ((spec_LeafHash.f k (rdOf ByteArray.empty l0 0)).bind fun t606 => (some t606)) else (none)) else ((spec_l6Half.f k (l0.length : Int)).bind fun t607 => (if 0 ≤ t607 then (if t607 ≤ (l0.length : Int) then ((spec_l6Root.f k (l0.take (t607 : Int).toNat)).bind fun t609 => ((spec_l6Root.f k (l0.drop (t607 : Int).toNat)).bind fun t611 => ((spec_NodeHash.f k t609 t611).bind fun t612 => (some t612)))) else (none)) else (none))))
def spec_l6Root.T7 : Bool × List (List Nat × List Nat) := (true, [([], []), ([], []), ([0, 1], [0, 1]), ([2], [2]), ([], []), ([], []), ([4, 5], [4, 5]), ([6, 3], [6]), ([3, 7, 7], [3, 7]), ([8, 8, 0, 1, 2, 3, 4, 5, 6, 7, 8], [8])])
def spec_l6Root.B7 : List Nat := [0, 0, 3, 7, 0, 0, 48, 127, 255, 511]
theorem spec_l6Root.tab7 : rtab .any (opsOf Tryz.f138 7) = spec_l6Root.T7 := by kernel_rfl
theorem spec_l6Root.bits7 : waitsOk spec_l6Root.T7.2 spec_l6Root.B7 = true := by kernel_rfl
set_option maxHeartbeats 8000000 in
set_option maxRecDepth 100000 in
theorem spec_l6Root.calls (k : Nat) : ∀ (A0 : Option Addr) (c0 : Nat) (l0 : List ByteArray) (r : ByteArray) (w : World) (hr0 : Kd.C Kd.string w A0 l0.length l0) (hc0 : l0.length ≤ c0) (h : spec_l6Root.f k l0 = some r),
  Calls Tryz.prog 138 #[.slice A0 l0.length c0] w fun e w' => e = .returned (.string r) ∧ Below w.heap.size w w' := by
 induction k using Nat.strongRecOn with
 | _ k ih =>
 intro A0 c0 l0 r w hr0 hc0 h
 cases k with
 | zero => exact absurd h (by simp [spec_l6Root.f])
 | succ k =>
 simp only [spec_l6Root.f] at h
 have HR0 := Aside0.mk hr0
 have HC0 := Aside0.mk hc0
 clear hr0 hc0
 have HB := Aside0.mk (Below.refl w.heap.size w)
 have H : (if (l0.length : Int) = 0 then ((spec_Digest.f k (([] : List Int))).bind fun t604 => (some t604)) else (if (l0.length : Int) = 1 then (if 0 < (l0.length : Int) then ((spec_LeafHash.f k (rdOf ByteArray.empty l0 0)).bind fun t606 => (some t606)) else (none)) else ((spec_l6Half.f k (l0.length : Int)).bind fun t607 => (if 0 ≤ t607 then (if t607 ≤ (l0.length : Int) then ((spec_l6Root.f k (l0.take (t607 : Int).toNat)).bind fun t609 => ((spec_l6Root.f k (l0.drop (t607 : Int).toNat)).bind fun t611 => ((spec_NodeHash.f k t609 t611).bind fun t612 => (some t612)))) else (none)) else (none))))) = some r := h
 clear h
 replace H := it_ H; obtain ⟨c2, H⟩ | ⟨c2, H⟩ := H
 ·have c2b0 : ((l0.length : Int) == 0) = true := beq_iff_eq.mpr c2
  have c2b1 : ((l0.length : Int) != 0) = false := bne_eq_false_iff_eq.mpr c2
  clear c2
  obtain ⟨y601, hy601⟩ : ∃ y_ : List Int, y_ = (([] : List Int)) := ⟨_, rfl⟩
  replace H : ((spec_Digest.f k y601).bind fun t604 => (some t604)) = some r := yh_ hy601 H
  have Ny601 := Aside0.mk hy601
  clear hy601
  replace H := bi_ H; obtain ⟨t604, A3, H⟩ := H
  obtain rfl := Option.some.inj H
  go_enter Tryz.func138, Tryz.ntmps138
  go_wp2_with (first | ((with_reducible refine gd_ 8 ?_); refine rl_ (Kd.int .u8) 5 8 ([] : List Int) [] ?_; intro v602 w4 ho5 hb hg_ hnew_; clear hg_ hnew_; (first | rw [← Ny601.out] at ho5 | (simp only [Int.reduceToNat] at ho5; rw [← Ny601.out] at ho5)); have HO603 := Aside0.mk (Kd.R_lower ho5 (sz_ HB)); replace HB := ss_ HB hb; clear hb ho5; obtain ⟨Ao6, co6, eo6⟩ := Kd.R_slice HO603.out; subst eo6) | ((with_reducible refine gq_ 119 9 ?_); refine gc_ 9 Tryz.func119 (spec_Digest.calls k _ _ y601 t604 _ (ch_ HO603) (cl_ HO603) A3.out) ?_; rintro e w7 ⟨rfl, hb⟩; refine ⟨_, rfl, ?_⟩; replace HO603 := rb_ HO603 hb; replace HB := ss_ HB hb; clear hb))
  go_ret
  exact ⟨e2_, bw_ HB⟩
 ·have c2b0 : ((l0.length : Int) == 0) = false := beq_eq_false_iff_ne.mpr c2
  have c2b1 : ((l0.length : Int) != 0) = true := bne_iff_ne.mpr c2
  have c2b2 : ¬ (l0 = []) := fun h_ => c2 (by rw [h_]; rfl)
  replace H := it_ H; obtain ⟨c8, H⟩ | ⟨c8, H⟩ := H
  ·have c8b0 : ((l0.length : Int) == 1) = true := beq_iff_eq.mpr c8
   have c8b1 : ((l0.length : Int) != 1) = false := bne_eq_false_iff_eq.mpr c8
   clear c8
   replace H := ip_ H; obtain ⟨c9, H⟩ := H
   have c9b0 := decide_eq_true c9
   have c9b1 : decide (0 < l0.length) = true := decide_eq_true (by omega)
   clear c9
   replace H := bi_ H; obtain ⟨t606, A10, H⟩ := H
   obtain rfl := Option.some.inj H
   have p605 : 0 ≤ (0 : Int) := (by omega)
   have q605 : 0 < (l0.length : Int) := of_decide_eq_true as_
   obtain ⟨ad605, e605, hx605_0⟩ := Kd.at_string HR0.out 0 p605 q605
   cases e605
   have qi605 : (0 < l0.length) = True := eq_true (by omega)
   (try rw [show ((0 : Int)).toNat = 0 from rfl] at hx605_0)
   (try rw [Addr.add_zero'] at hx605_0)
   replace p605 := eq_true p605
   replace q605 := eq_true q605
   go_enter Tryz.func138, Tryz.ntmps138
   go_wp2_with (first | ((with_reducible refine gq_ 160 15 ?_); refine gc_ 15 Tryz.func160 (spec_LeafHash.calls k (rdOf ByteArray.empty l0 0) t606 _ A10.out) ?_; rintro e w11 ⟨rfl, hb⟩; refine ⟨_, rfl, ?_⟩; replace HB := ss_ HB hb; clear hb))
   go_ret
   exact ⟨e2_, bw_ HB⟩
  ·have c8b0 : ((l0.length : Int) == 1) = false := beq_eq_false_iff_ne.mpr c8
   have c8b1 : ((l0.length : Int) != 1) = true := bne_iff_ne.mpr c8
   replace H := bi_ H; obtain ⟨t607, A12, H⟩ := H
   replace H := ip_ H; obtain ⟨c13, H⟩ := H
   have c13b0 := eq_true c13
   have c13b1 := decide_eq_true c13
   clear c13
   replace H := ip_ H; obtain ⟨c14, H⟩ := H
   have c14b0 := eq_true c14
   have c14b1 := decide_eq_true c14
   clear c14
   replace H := bi_ H; obtain ⟨t609, A15, H⟩ := H
   have c16b0 := eq_true (of_decide_eq_true as_ : 0 ≤ t607)
   have c17b0 := eq_true (of_decide_eq_true as_ : t607 ≤ (l0.length : Int))
   replace H := bi_ H; obtain ⟨t611, A18, H⟩ := H
   replace H := bi_ H; obtain ⟨t612, A19, H⟩ := H
   obtain rfl := Option.some.inj H
   go_enter Tryz.func138, Tryz.ntmps138
   try go_wp2_with (first | ((with_reducible refine gq_ 161 18 ?_); refine gc_ 18 Tryz.func161 (spec_l6Half.calls k (l0.length : Int) t607 _ A12.out) ?_; rintro e w20 ⟨rfl, hb⟩; refine ⟨_, rfl, ?_⟩; replace HB := ss_ HB hb; clear hb))
   replace HB := Aside0.mk (below_drew1 HB.out)
   obtain ⟨i022, hi022, _, hsz22, _⟩ := info_parts info9
   obtain ⟨hcut22, hA22, hC22⟩ := print_take_of (P := Tryz.prog) Value.string (⟨#[]⟩ : ByteArray) 22 9 .i64 Tryz.underlying22 hi022 hsz22 A0 c0 l0 t607 (of_decide_eq_true as_) (of_decide_eq_true as_) HC0.out
   have HR608 := Aside0.mk (Kd.C_of_reads (h1 := fun _ => rfl) (hA22 _ (Kd.reads_of_C HR0.out)))
   have HC608 := Aside0.mk hC22
   clear hA22 hC22 hi022 hsz22
   obtain ⟨i023, hi023, _, hsz23, _⟩ := info_parts info9
   obtain ⟨A23, hcut23, hA23, hC23⟩ := print_drop_of (P := Tryz.prog) Value.string (⟨#[]⟩ : ByteArray) 22 9 .i64 Tryz.underlying22 hi023 hsz23 A0 c0 l0 t607 (of_decide_eq_true as_) (of_decide_eq_true as_) HC0.out
   have HR610 := Aside0.mk (Kd.C_of_reads (h1 := fun _ => rfl) (hA23 _ (Kd.reads_of_C HR0.out)))
   have HC610 := Aside0.mk hC23
   clear hA23 hC23 hi023 hsz23
   refine start_ (n := 10) (S := fun w' => True) (ds := []) (lz_ 10 0) (by kernel_rfl) rfl rfl trivial (fun hHeld => ?_); refine with_tabW spec_l6Root.tab7 spec_l6Root.bits7 (fun HT_ HW_ => ?_)
   generalize w20.drew = w21 at HB HR608 HR610 hHeld ⊢
   refine pt_ 0 19 1 ?_
   refine pt_ 1 20 3 ?_
   refine pt_ 2 21 7 ?_
   refine pt_ 4 23 23 ?_
   refine pt_ 5 24 55 ?_
   refine pt_ 6 25 119 ?_
   refine one_ (i := 3) (N := some 22) (lz_ 10 127) rfl rfl (one_of HT_.out (by kernel_rfl)) (by decide) (fun K hK => ?_)
   refine goes_ Tryz.func138 (by kernel_rfl) rfl #[.slice A0 (l0.take (t607 : Int).toNat).length c0] (by rfl) rfl rfl (by (try simp only [List.map_toArray, List.map_cons, List.map_nil]); first | done | (rw [show (l0.take (t607 : Int).toNat).length = t607.toNat from (by rw [List.length_take]; have h_ : (t607 : Int) ≤ (l0.length : Int) := of_decide_eq_true as_; omega)] <;> rfl) | rfl | (simp only [List.length_drop, List.length_take]; rfl)) ?_
   with_reducible refine (ih k (by omega) _ _ (l0.take (t607 : Int).toNat) t609 _ ?side1 ?side2 A15.out).mono ?_
   (case side1 => exact cb_ HR608 HB)
   (case side2 => exact HC608.out)
   rintro e w24 ⟨rfl, hb⟩
   refine ⟨_, rfl, ?_⟩
   replace HB := ss_ HB hb
   clear hb
   refine hK.out _ _ trivial (fun hHeld => ?_)
   clear hK K
   refine no_ 22 ?_
   refine one_ (i := 7) (N := some 26) (lz_ 10 255) rfl rfl (one_of HT_.out (by kernel_rfl)) (by decide) (fun K hK => ?_)
   refine goes_ Tryz.func138 (by kernel_rfl) rfl #[.slice A23 (l0.drop (t607 : Int).toNat).length (c0 - t607.toNat)] (by rfl) rfl rfl (by (try simp only [List.map_toArray, List.map_cons, List.map_nil]); first | done | (rw [show (l0.drop (t607 : Int).toNat).length = (l0.length - t607.toNat) from List.length_drop] <;> rfl) | rfl | (simp only [List.length_drop, List.length_take]; rfl)) ?_
   with_reducible refine (ih k (by omega) _ _ (l0.drop (t607 : Int).toNat) t611 _ ?side1 ?side2 A18.out).mono ?_
   (case side1 => exact cb_ HR610 HB)
   (case side2 => exact HC610.out)
   rintro e w25 ⟨rfl, hb⟩
   refine ⟨_, rfl, ?_⟩
   replace HB := ss_ HB hb
   clear hb
   refine hK.out _ _ trivial (fun hHeld => ?_)
   clear hK K
   refine no_ 26 ?_
   refine one_ (i := 8) (N := some 27) (lz_ 10 511) rfl rfl (one_of HT_.out (by kernel_rfl)) (by decide) (fun K hK => ?_)
   refine gf_ Tryz.func162 (spec_NodeHash.calls k t609 t611 t612 _ A19.out) ?_
   rintro e w26 ⟨rfl, hb⟩
   refine ⟨_, rfl, ?_⟩
   replace HB := ss_ HB hb
   clear hb
   refine hK.out _ _ trivial (fun hHeld => ?_)
   clear hK K
   refine no_ 27 ?_
   refine pt_ 9 2 1023 ?_
   refine done_ (done_of HT_.out (by kernel_rfl)) ?_
   try go_wp2
   go_ret
   exact ⟨e2_, bw_ HB⟩
def spec_HeadOf.f (k : Nat) (l0 : List ByteArray) : Option (Int × ByteArray) := if (l0.length : Int) > 200 then (some (0, (⟨#[]⟩ : ByteArray))) else ((spec_l6Root.f k l0).bind fun t602 => (some ((l0.length : Int), t602)))
set_option maxHeartbeats 8000000 in
set_option maxRecDepth 100000 in
theorem spec_HeadOf.calls (k : Nat) (A0 : Option Addr) (c0 : Nat) (l0 : List ByteArray) (r1 : Int) (r2 : ByteArray) (w : World) (hr0 : Kd.C Kd.string w A0 l0.length l0) (hc0 : l0.length ≤ c0) (h : spec_HeadOf.f k l0 = some (r1, r2)) :
  Calls Tryz.prog 110 #[.slice A0 l0.length c0] w fun e w' => e = .returned (.agg #[.int .i64 r1, .string r2]) ∧ Below w.heap.size w w' := by
 have hu37 := Tryz.underlying37
 have HR0 := Aside0.mk hr0
 have HC0 := Aside0.mk hc0
 clear hr0 hc0
 have HB := Aside0.mk (Below.refl w.heap.size w)
 have H : (if (l0.length : Int) > 200 then (some (0, (⟨#[]⟩ : ByteArray))) else ((spec_l6Root.f k l0).bind fun t602 => (some ((l0.length : Int), t602)))) = some (r1, r2) := h
 clear h
 replace H := it_ H; obtain ⟨c2, H⟩ | ⟨c2, H⟩ := H
 ·have c2b0 : decide (200 < (l0.length : Int)) = true := decide_eq_true c2
  have c2b1 : decide (200 < l0.length) = true := decide_eq_true (by omega)
  clear c2
  replace H := so2_ H; obtain ⟨rfl, rfl⟩ := H
  go_enter Tryz.func110, Tryz.ntmps110
  go_wp2_with (first | ((with_reducible refine gd_ 2 ?_); refine bx_ 2 37 #[.int .i64 0, .string (⟨#[]⟩ : ByteArray)] ?_; intro gb601 hg w3 hbox hb; have BK601 := Aside0.mk hbox; have GW601 := gg_ hg HB; have GE601 := GW601; replace HB := ss_ HB hb; clear hb hbox hg; have hz4 := cz2_ BK601))
  refine bodyPost_ret (results_cell_row rfl _ _ gb601 37 #[.int .i64 0, .string (⟨#[]⟩ : ByteArray)] (0, 0) _ rfl (by exact kq_ BK601) Tryz.underlying37 rfl (by kernel_rfl)) rfl ?_
  exact ⟨e2_, bw_ HB⟩
 ·have c2b0 : decide (200 < (l0.length : Int)) = false := decide_eq_false c2
  have c2b1 : decide (200 < l0.length) = false := decide_eq_false (by omega)
  clear c2
  replace H := bi_ H; obtain ⟨t602, A5, H⟩ := H
  replace H := so2_ H; obtain ⟨rfl, rfl⟩ := H
  go_enter Tryz.func110, Tryz.ntmps110
  go_wp2_with (first | ((with_reducible refine gd_ 2 ?_); refine bx_ 2 37 #[.int .i64 0, .string (⟨#[]⟩ : ByteArray)] ?_; intro gb601 hg w6 hbox hb; have BK601 := Aside0.mk hbox; have GW601 := gg_ hg HB; have GE601 := GW601; replace HB := ss_ HB hb; clear hb hbox hg) | ((with_reducible refine gq_ 138 10 ?_); refine gc_ 10 Tryz.func138 (spec_l6Root.calls k _ _ l0 t602 _ (cb_ HR0 HB) HC0.out A5.out) ?_; rintro e w7 ⟨rfl, hb⟩; refine ⟨_, rfl, ?_⟩; replace BK601 := kl_ BK601 hb; replace HB := ss_ HB hb; clear hb; have hz8 := cz2_ BK601))
  refine bodyPost_ret (results_cell_row rfl _ _ gb601 37 #[.int .i64 (l0.length : Int), .string t602] (0, 0) _ rfl (by exact kq_ BK601) Tryz.underlying37 rfl (by kernel_rfl)) rfl ?_
  exact ⟨e2_, bw_ HB⟩
end Go.Proofs.YtnlndmoecljicaaGreat.Q
end
section
namespace Go.Proofs.YtnlndmoecljicaaGreat.Q
open Go.RowKit Go.Proofs.YtnlndmoecljicaaGreat.B Go.Proofs.YtnlndmoecljicaaGreatW.PrintWords Go.Proofs.YtnlndmoecljicaaGreatW.PrintMore
set_option linter.unusedVariables false
set_option linter.unusedSimpArgs false
def bigB : Nat := 1048608
theorem node_small {a b : ByteArray} (ha : a.size ≤ bigB) (hb : b.size ≤ bigB) : a.size + b.size ≤ 1099511627775 := by unfold bigB at *; omega
theorem mem_take_of {l : List ByteArray} {n : Nat} (h : ∀ x ∈ l, x.size ≤ bigB) : ∀ x ∈ l.take n, x.size ≤ bigB := fun x hx => h x (List.mem_of_mem_take hx)
theorem mem_drop_of {l : List ByteArray} {n : Nat} (h : ∀ x ∈ l, x.size ≤ bigB) : ∀ x ∈ l.drop n, x.size ≤ bigB := fun x hx => h x (List.mem_of_mem_drop hx)
theorem leafs_small (l : List ByteArray) : ∀ x ∈ l, (leafH x).size ≤ bigB := fun x _ => by rw [leafH_size]; decide
theorem root_small (l : List ByteArray) : (rootBy leafH l).size ≤ bigB := rootBy_size leafH bigB (by decide) _ (leafs_small l)
theorem rooted_impl : ∀ (n : Nat) (l : List ByteArray), l.length ≤ n → l.length ≤ 4611686018427387904 → (∀ x ∈ l, x.size ≤ bigB) → Ev (fun k => impl_rootOf.f k l) (rootBy leafH l) := by
 intro n
 induction n with
 | zero =>
  intro l h1 h2 hs
  obtain rfl := List.eq_nil_of_length_eq_zero (show l.length = 0 by omega)
  rw [rootBy_nil]
  refine Ev.step (fun k => by simp only [impl_rootOf.f]; rfl) ?_
  exact Ev.pos rfl (Ev.bind (Ev.const (impl_Digest_is [] (by decide))) (Ev.now _))
 | succ n ih =>
  intro l h1 h3 hs
  by_cases h : 2 ≤ l.length
  ·obtain ⟨p1, p2, p3, p4⟩ := cut_parts l h
   have hh := half_lt h
   have e1 := ih (l.take (half l.length)) (by omega) (by omega) (mem_take_of hs)
   have e2 := ih (l.drop (half l.length)) (by omega) (by omega) (mem_drop_of hs)
   have e3 := impl_node _ _ (node_small (root_small (l.take (half l.length))) (root_small (l.drop (half l.length))))
   rw [rootBy_more leafH h]
   refine Ev.step (fun k => by simp only [impl_rootOf.f]; rfl) ?_
   refine Ev.neg (by omega) (Ev.neg (by omega) (Ev.bind (impl_half_ev l.length h h3) ?_))
   exact Ev.pos (by omega) (Ev.pos (by omega) (Ev.bind e1 (Ev.bind e2 (Ev.bind (Ev.const e3) (Ev.now _)))))
  ·match l, h with
   | [], _ =>
    rw [rootBy_nil]
    refine Ev.step (fun k => by simp only [impl_rootOf.f]; rfl) ?_
    exact Ev.pos rfl (Ev.bind (Ev.const (impl_Digest_is [] (by decide))) (Ev.now _))
   | [a], _ =>
    rw [rootBy_one]
    have ha := hs a (by simp)
    refine Ev.step (fun k => by simp only [impl_rootOf.f]; rfl) ?_
    refine Ev.neg (by simp) (Ev.pos rfl (Ev.pos (by simp) ?_))
    exact Ev.bind (Ev.const (impl_leaf a (by unfold bigB at ha; omega))) (Ev.now _)
   | _ :: _ :: _, h => simp at h
theorem rooted_spec : ∀ (n : Nat) (l : List ByteArray), l.length ≤ n → l.length ≤ 4611686018427387904 → (∀ x ∈ l, x.size ≤ bigB) → Ev (fun k => spec_l6Root.f k l) (rootBy leafH l) := by
 intro n
 induction n with
 | zero =>
  intro l h1 h2 hs
  obtain rfl := List.eq_nil_of_length_eq_zero (show l.length = 0 by omega)
  rw [rootBy_nil]
  refine Ev.step (fun k => by simp only [spec_l6Root.f]; rfl) ?_
  exact Ev.pos rfl (Ev.bind (spec_Digest_ev [] (by decide) (by simp)) (Ev.now _))
 | succ n ih =>
  intro l h1 h3 hs
  by_cases h : 2 ≤ l.length
  ·obtain ⟨p1, p2, p3, p4⟩ := cut_parts l h
   have hh := half_lt h
   have e1 := ih (l.take (half l.length)) (by omega) (by omega) (mem_take_of hs)
   have e2 := ih (l.drop (half l.length)) (by omega) (by omega) (mem_drop_of hs)
   have e3 := spec_node _ _ (node_small (root_small (l.take (half l.length))) (root_small (l.drop (half l.length))))
   rw [rootBy_more leafH h]
   refine Ev.step (fun k => by simp only [spec_l6Root.f]; rfl) ?_
   refine Ev.neg (by omega) (Ev.neg (by omega) (Ev.bind (spec_half l.length h h3) ?_))
   exact Ev.pos (by omega) (Ev.pos (by omega) (Ev.bind e1 (Ev.bind e2 (Ev.bind e3 (Ev.now _)))))
  ·match l, h with
   | [], _ =>
    rw [rootBy_nil]
    refine Ev.step (fun k => by simp only [spec_l6Root.f]; rfl) ?_
    exact Ev.pos rfl (Ev.bind (spec_Digest_ev [] (by decide) (by simp)) (Ev.now _))
   | [a], _ =>
    rw [rootBy_one]
    have ha := hs a (by simp)
    refine Ev.step (fun k => by simp only [spec_l6Root.f]; rfl) ?_
    refine Ev.neg (by simp) (Ev.pos rfl (Ev.pos (by simp) ?_))
    exact Ev.bind (spec_leaf a (by unfold bigB at ha; omega)) (Ev.now _)
   | _ :: _ :: _, h => simp at h
def headOf (l : List ByteArray) : Int × ByteArray := if (l.length : Int) > 200 then (0, ⟨#[]⟩) else ((l.length : Int), rootBy leafH l)
theorem headOf_few {l : List ByteArray} (h : l.length ≤ 200) : headOf l = ((l.length : Int), rootBy leafH l) := if_neg (by omega)
theorem headOf_many {l : List ByteArray} (h : ¬ l.length ≤ 200) : headOf l = (0, ⟨#[]⟩) := if_pos (by omega)
theorem spec_HeadOf_ev (l : List ByteArray) (hs : ∀ x ∈ l, x.size ≤ bigB) : Ev (fun k => spec_HeadOf.f k l) (headOf l) := by
 unfold spec_HeadOf.f
 by_cases h : l.length ≤ 200
 ·rw [headOf_few h]
  exact Ev.neg (by omega) (Ev.bind (rooted_spec l.length l (Nat.le_refl _) (by omega) hs) (Ev.now _))
 ·rw [headOf_many h]
  exact Ev.pos (by omega) (Ev.now _)
end Go.Proofs.YtnlndmoecljicaaGreat.Q
end
section
namespace Go.Proofs.YtnlndmoecljicaaGreat.Q
open Go.RowKit Go.Proofs.YtnlndmoecljicaaGreatW.PrintWords Go.Proofs.YtnlndmoecljicaaGreatW.PrintLast Go.Proofs.YtnlndmoecljicaaGreatW.PrintMore
attribute [local go_sem] max2_int min2_int max_two min_two max_three min_three max_four min_four   -- for this text's walks alone
set_option linter.unusedVariables false
set_option linter.unusedSimpArgs false
def impl_HeadOf.f (k : Nat) (l0 : List ByteArray) : Option (Int × ByteArray) := if (l0.length : Int) > 200 then (some (0, (⟨#[]⟩ : ByteArray))) else ((impl_rootOf.f k l0).bind fun t602 => (some ((l0.length : Int), t602)))
set_option maxHeartbeats 8000000 in
set_option maxRecDepth 100000 in
theorem impl_HeadOf.calls (k : Nat) (A0 : Option Addr) (c0 : Nat) (l0 : List ByteArray) (r1 : Int) (r2 : ByteArray) (w : World) (hr0 : Kd.C Kd.string w A0 l0.length l0) (hc0 : l0.length ≤ c0) (h : impl_HeadOf.f k l0 = some (r1, r2)) :
  Calls Tryz.prog 65 #[.slice A0 l0.length c0] w fun e w' => e = .returned (.agg #[.int .i64 r1, .string r2]) ∧ Below w.heap.size w w' := by
 have hu37 := Tryz.underlying37
 have HR0 := Aside0.mk hr0
 have HC0 := Aside0.mk hc0
 clear hr0 hc0
 have HB := Aside0.mk (Below.refl w.heap.size w)
 have H : (if (l0.length : Int) > 200 then (some (0, (⟨#[]⟩ : ByteArray))) else ((impl_rootOf.f k l0).bind fun t602 => (some ((l0.length : Int), t602)))) = some (r1, r2) := h
 clear h
 replace H := it_ H; obtain ⟨c2, H⟩ | ⟨c2, H⟩ := H
 ·have c2b0 : decide (200 < (l0.length : Int)) = true := decide_eq_true c2
  have c2b1 : decide (200 < l0.length) = true := decide_eq_true (by omega)
  clear c2
  replace H := so2_ H; obtain ⟨rfl, rfl⟩ := H
  go_enter Tryz.func65, Tryz.ntmps65
  go_wp2_with (first | ((with_reducible refine gd_ 2 ?_); refine bx_ 2 37 #[.int .i64 0, .string (⟨#[]⟩ : ByteArray)] ?_; intro gb601 hg w3 hbox hb; have BK601 := Aside0.mk hbox; have GW601 := gg_ hg HB; have GE601 := GW601; replace HB := ss_ HB hb; clear hb hbox hg; have hz4 := cz2_ BK601))
  refine bodyPost_ret (results_cell_row rfl _ _ gb601 37 #[.int .i64 0, .string (⟨#[]⟩ : ByteArray)] (0, 0) _ rfl (by exact kq_ BK601) Tryz.underlying37 rfl (by kernel_rfl)) rfl ?_
  exact ⟨e2_, bw_ HB⟩
 ·have c2b0 : decide (200 < (l0.length : Int)) = false := decide_eq_false c2
  have c2b1 : decide (200 < l0.length) = false := decide_eq_false (by omega)
  clear c2
  replace H := bi_ H; obtain ⟨t602, A5, H⟩ := H
  replace H := so2_ H; obtain ⟨rfl, rfl⟩ := H
  go_enter Tryz.func65, Tryz.ntmps65
  go_wp2_with (first | ((with_reducible refine gd_ 2 ?_); refine bx_ 2 37 #[.int .i64 0, .string (⟨#[]⟩ : ByteArray)] ?_; intro gb601 hg w6 hbox hb; have BK601 := Aside0.mk hbox; have GW601 := gg_ hg HB; have GE601 := GW601; replace HB := ss_ HB hb; clear hb hbox hg) | ((with_reducible refine gq_ 103 10 ?_); refine gc_ 10 Tryz.func103 (impl_rootOf.calls k _ _ l0 t602 _ (cb_ HR0 HB) HC0.out A5.out) ?_; rintro e w7 ⟨rfl, hb⟩; refine ⟨_, rfl, ?_⟩; replace BK601 := kl_ BK601 hb; replace HB := ss_ HB hb; clear hb; have hz8 := cz2_ BK601))
  refine bodyPost_ret (results_cell_row rfl _ _ gb601 37 #[.int .i64 (l0.length : Int), .string t602] (0, 0) _ rfl (by exact kq_ BK601) Tryz.underlying37 rfl (by kernel_rfl)) rfl ?_
  exact ⟨e2_, bw_ HB⟩
end Go.Proofs.YtnlndmoecljicaaGreat.Q
end
section
namespace Go.Proofs.YtnlndmoecljicaaGreat.Q
open Go.RowKit Go.Proofs.YtnlndmoecljicaaGreat.B Go.Proofs.YtnlndmoecljicaaGreatW.PrintWords Go.Proofs.YtnlndmoecljicaaGreatW.PrintMore
set_option linter.unusedVariables false
theorem impl_HeadOf_ev (l : List ByteArray) (hs : ∀ x ∈ l, x.size ≤ bigB) : Ev (fun k => impl_HeadOf.f k l) (headOf l) := by
 unfold impl_HeadOf.f
 by_cases h : l.length ≤ 200
 ·rw [headOf_few h]
  exact Ev.neg (by omega) (Ev.bind (rooted_impl l.length l (Nat.le_refl _) (by omega) hs) (Ev.now _))
 ·rw [headOf_many h]
  exact Ev.pos (by omega) (Ev.now _)
theorem total_small {l : List ByteArray} (h : total l ≤ 1048576) : ∀ x ∈ l, x.size ≤ bigB := fun x hx => by
 have := total_mem hx
 unfold bigB
 omega
end Go.Proofs.YtnlndmoecljicaaGreat.Q
end
section
namespace Go.Proofs.YtnlndmoecljicaaGreat.Q
open Go.RowKit Go.Proofs.YtnlndmoecljicaaGreatW.PrintWords Go.Proofs.YtnlndmoecljicaaGreatW.PrintLast Go.Proofs.YtnlndmoecljicaaGreatW.PrintMore
attribute [local go_sem] max2_int min2_int max_two min_two max_three min_three max_four min_four   -- for this text's walks alone
set_option linter.unusedVariables false
set_option linter.unusedSimpArgs false
theorem eqA37 (d : Nat) (w : World) (x0 y0 : Int) (x1 y1 : ByteArray) :
  (Op.equalIn (d + 2) 37 (.agg #[.int .i64 x0, .string x1]) (.agg #[.int .i64 y0, .string y1])).run Tryz.prog w = .ok (x0 == y0 && (x1.toList == y1.toList)) w := by
 refine eqA_of Tryz.underlying37 (by kernel_rfl) ?_
 refine eqf_cons (by rfl) (by go_simp; rfl) (by go_simp; rfl) (by go_simp) ?_
 exact eqf_last (by rfl) (by go_simp; rfl) (by go_simp; rfl) (by go_simp)
end Go.Proofs.YtnlndmoecljicaaGreat.Q
end
section
namespace Go.Proofs.YtnlndmoecljicaaGreat.Q
open Go.RowKit Go.Proofs.YtnlndmoecljicaaGreatW.PrintWords Go.Proofs.YtnlndmoecljicaaGreatW.PrintLast Go.Proofs.YtnlndmoecljicaaGreatW.PrintMore
attribute [local go_sem] max2_int min2_int max_two min_two max_three min_three max_four min_four   -- for this text's walks alone
set_option linter.unusedVariables false
set_option linter.unusedSimpArgs false
attribute [local go_sem high] eqA37
def impl_LogOk.f (k : Nat) (l0_0 : List ByteArray) (a0_1 : Int) (a0_2 : ByteArray) : Option (Bool) := if (l0_0.length : Int) ≤ 200 then ((impl_HeadOf.f k l0_0).bind fun bt602 => (some (a0_1 == bt602.1 && (a0_2.toList == bt602.2.toList)))) else (some false)
def impl_LogOk.T1 : Bool × List (List Nat × List Nat) := (true, [([], []), ([0], [0]), ([1], [1]), ([2], [2]), ([3], [3]), ([4], [4]), ([5, 4], [4, 5]), ([4], [4]), ([7, 4], [4, 7]), ([8, 4, 4], [4, 8]), ([6, 9, 4], [4, 6, 9]), ([4, 10], [4, 10]), ([11, 9, 0, 1, 2, 3, 4, 5, 6, 7, 8, 9, 10, 11], [11])])
def impl_LogOk.B1 : List Nat := [0, 1, 3, 7, 15, 31, 63, 31, 159, 415, 1023, 2047, 4095]
theorem impl_LogOk.tab1 : rtab .any (opsOf Tryz.f62 1) = impl_LogOk.T1 := by kernel_rfl
theorem impl_LogOk.bits1 : waitsOk impl_LogOk.T1.2 impl_LogOk.B1 = true := by kernel_rfl
set_option maxHeartbeats 8000000 in
set_option maxRecDepth 100000 in
theorem impl_LogOk.calls (k : Nat) (A0_0 : Option Addr) (c0_0 : Nat) (l0_0 : List ByteArray) (a0_1 : Int) (a0_2 : ByteArray) (r : Bool) (w : World) (hr0_0 : Kd.C Kd.string w A0_0 l0_0.length l0_0) (hc0_0 : l0_0.length ≤ c0_0) (h : impl_LogOk.f k l0_0 a0_1 a0_2 = some r) :
  Calls Tryz.prog 62 #[.agg #[.slice A0_0 l0_0.length c0_0, .int .i64 a0_1, .string a0_2]] w fun e w' => e = .returned (.bool r) ∧ Below w.heap.size w w' := by
 have hu39 := Tryz.underlying39
 have hu37 := Tryz.underlying37
 have HR0_0 := Aside0.mk hr0_0
 have HC0_0 := Aside0.mk hc0_0
 clear hr0_0 hc0_0
 have HB := Aside0.mk (Below.refl w.heap.size w)
 have H : (if (l0_0.length : Int) ≤ 200 then ((impl_HeadOf.f k l0_0).bind fun bt602 => (some (a0_1 == bt602.1 && (a0_2.toList == bt602.2.toList)))) else (some false)) = some r := h
 clear h
 replace H := it_ H; obtain ⟨c2, H⟩ | ⟨c2, H⟩ := H
 ·have c2b0 := decide_eq_true c2
  have c2b1 : decide (l0_0.length ≤ 200) = true := decide_eq_true (by omega)
  clear c2
  replace H := bi_ H; obtain ⟨⟨t602, t603⟩, A3, H⟩ := H
  dsimp only at H
  obtain rfl := Option.some.inj H
  go_enter Tryz.func62, Tryz.ntmps62
  try go_wp2_with (first | ((with_reducible refine gd_ 1 ?_); refine bx_ 1 39 #[.slice A0_0 l0_0.length c0_0, .int .i64 a0_1, .string a0_2] ?_; intro gb601 hg w4 hbox hb; have BK601 := Aside0.mk hbox; have GW601 := gg_ hg HB; have GE601 := GW601; replace HB := ss_ HB hb; clear hb hbox hg))
  replace BK601 := Aside0.mk (blk_drew BK601.out)
  replace HB := Aside0.mk (below_drew1 HB.out)
  refine start_ (n := 13) (S := fun w' => w'.cell? ⟨gb601, 0, none⟩ = some (.slice A0_0 l0_0.length c0_0) ∧ w'.cell? ⟨gb601, 1, none⟩ = some (.int .i64 a0_1) ∧ w'.cell? ⟨gb601, 2, none⟩ = some (.string a0_2)) (ds := []) (lz_ 13 0) (by kernel_rfl) rfl rfl ⟨bc0_ BK601.out, bc1_ BK601.out, bc2_ BK601.out⟩ (fun hHeld => ?_); refine with_tabW impl_LogOk.tab1 impl_LogOk.bits1 (fun HT_ HW_ => ?_)
  generalize w4.drew = w5 at BK601 HB hHeld ⊢
  refine pt_ 0 3 1 ?_
  refine tt_ 1 4 3 ?_
  refine pt_ 2 5 7 ?_
  refine pt_ 3 6 15 ?_
  refine pt_ 4 7 31 ?_
  refine pt_ 5 8 63 ?_
  refine pt_ 7 10 191 ?_
  refine tt_ 6 9 255 ?_
  refine tt_ 8 11 511 ?_
  refine one_ (i := 9) (N := some 12) (lz_ 13 1023) rfl rfl (one_of HT_.out (by kernel_rfl)) (by decide) (fun K hK => ?_)
  refine gf_ Tryz.func65 (impl_HeadOf.calls k _ _ l0_0 t602 t603 _ (cb_ HR0_0 HB) HC0_0.out A3.out) ?_
  rintro e w6 ⟨rfl, hb⟩
  refine ⟨_, rfl, ?_⟩
  replace BK601 := kl_ BK601 hb
  replace HB := ss_ HB hb
  clear hb
  refine hK.out _ _ ⟨bc0_ BK601.out, bc1_ BK601.out, bc2_ BK601.out⟩ (fun hHeld => ?_)
  clear hK K
  refine no_ 12 ?_
  refine pt_ 10 13 2047 ?_
  refine pt_ 11 14 4095 ?_
  refine pt_ 12 2 8191 ?_
  refine done_ (done_of HT_.out (by kernel_rfl)) ?_
  try go_wp2
  go_ret
  exact ⟨e2_, bw_ HB⟩
 ·have c2b0 := decide_eq_false c2
  have c2b1 : decide (l0_0.length ≤ 200) = false := decide_eq_false (by omega)
  clear c2
  obtain rfl := Option.some.inj H
  go_enter Tryz.func62, Tryz.ntmps62
  try go_wp2_with (first | ((with_reducible refine gd_ 1 ?_); refine bx_ 1 39 #[.slice A0_0 l0_0.length c0_0, .int .i64 a0_1, .string a0_2] ?_; intro gb601 hg w7 hbox hb; have BK601 := Aside0.mk hbox; have GW601 := gg_ hg HB; have GE601 := GW601; replace HB := ss_ HB hb; clear hb hbox hg))
  replace BK601 := Aside0.mk (blk_drew BK601.out)
  replace HB := Aside0.mk (below_drew1 HB.out)
  refine start_ (n := 13) (S := fun w' => w'.cell? ⟨gb601, 0, none⟩ = some (.slice A0_0 l0_0.length c0_0) ∧ w'.cell? ⟨gb601, 1, none⟩ = some (.int .i64 a0_1) ∧ w'.cell? ⟨gb601, 2, none⟩ = some (.string a0_2)) (ds := []) (lz_ 13 0) (by kernel_rfl) rfl rfl ⟨bc0_ BK601.out, bc1_ BK601.out, bc2_ BK601.out⟩ (fun hHeld => ?_); refine with_tabW impl_LogOk.tab1 impl_LogOk.bits1 (fun HT_ HW_ => ?_)
  generalize w7.drew = w8 at BK601 HB hHeld ⊢
  refine pt_ 0 3 1 ?_
  refine tt_ 1 4 3 ?_
  refine pt_ 2 5 7 ?_
  refine pt_ 3 6 15 ?_
  refine pt_ 4 7 31 ?_
  refine ut_ 5 8 63 ?_
  refine ut_ 6 9 127 ?_
  refine ut_ 7 10 255 ?_
  refine ut_ 8 11 511 ?_
  refine ut_ 9 12 1023 ?_
  refine ut_ 10 13 2047 ?_
  refine pt_ 11 14 4095 ?_
  refine pt_ 12 2 8191 ?_
  refine done_ (done_of HT_.out (by kernel_rfl)) ?_
  try go_wp2
  go_ret
  exact ⟨e2_, bw_ HB⟩
def spec_LogOk.f (k : Nat) (l0_0 : List ByteArray) (a0_1 : Int) (a0_2 : ByteArray) : Option (Bool) := if (l0_0.length : Int) ≤ 200 then ((spec_HeadOf.f k l0_0).bind fun bt602 => (some (a0_1 == bt602.1 && (a0_2.toList == bt602.2.toList)))) else (some false)
def spec_LogOk.T1 : Bool × List (List Nat × List Nat) := (true, [([], []), ([0], [0]), ([1], [1]), ([2], [2]), ([3], [3]), ([4], [4]), ([5, 4], [4, 5]), ([4], [4]), ([7, 4], [4, 7]), ([8, 4, 4], [4, 8]), ([6, 9, 4], [4, 6, 9]), ([4, 10], [4, 10]), ([11, 9, 0, 1, 2, 3, 4, 5, 6, 7, 8, 9, 10, 11], [11])])
def spec_LogOk.B1 : List Nat := [0, 1, 3, 7, 15, 31, 63, 31, 159, 415, 1023, 2047, 4095]
theorem spec_LogOk.tab1 : rtab .any (opsOf Tryz.f107 1) = spec_LogOk.T1 := by kernel_rfl
theorem spec_LogOk.bits1 : waitsOk spec_LogOk.T1.2 spec_LogOk.B1 = true := by kernel_rfl
set_option maxHeartbeats 8000000 in
set_option maxRecDepth 100000 in
theorem spec_LogOk.calls (k : Nat) (A0_0 : Option Addr) (c0_0 : Nat) (l0_0 : List ByteArray) (a0_1 : Int) (a0_2 : ByteArray) (r : Bool) (w : World) (hr0_0 : Kd.C Kd.string w A0_0 l0_0.length l0_0) (hc0_0 : l0_0.length ≤ c0_0) (h : spec_LogOk.f k l0_0 a0_1 a0_2 = some r) :
  Calls Tryz.prog 107 #[.agg #[.slice A0_0 l0_0.length c0_0, .int .i64 a0_1, .string a0_2]] w fun e w' => e = .returned (.bool r) ∧ Below w.heap.size w w' := by
 have hu39 := Tryz.underlying39
 have hu37 := Tryz.underlying37
 have HR0_0 := Aside0.mk hr0_0
 have HC0_0 := Aside0.mk hc0_0
 clear hr0_0 hc0_0
 have HB := Aside0.mk (Below.refl w.heap.size w)
 have H : (if (l0_0.length : Int) ≤ 200 then ((spec_HeadOf.f k l0_0).bind fun bt602 => (some (a0_1 == bt602.1 && (a0_2.toList == bt602.2.toList)))) else (some false)) = some r := h
 clear h
 replace H := it_ H; obtain ⟨c2, H⟩ | ⟨c2, H⟩ := H
 ·have c2b0 := decide_eq_true c2
  have c2b1 : decide (l0_0.length ≤ 200) = true := decide_eq_true (by omega)
  clear c2
  replace H := bi_ H; obtain ⟨⟨t602, t603⟩, A3, H⟩ := H
  dsimp only at H
  obtain rfl := Option.some.inj H
  go_enter Tryz.func107, Tryz.ntmps107
  try go_wp2_with (first | ((with_reducible refine gd_ 1 ?_); refine bx_ 1 39 #[.slice A0_0 l0_0.length c0_0, .int .i64 a0_1, .string a0_2] ?_; intro gb601 hg w4 hbox hb; have BK601 := Aside0.mk hbox; have GW601 := gg_ hg HB; have GE601 := GW601; replace HB := ss_ HB hb; clear hb hbox hg))
  replace BK601 := Aside0.mk (blk_drew BK601.out)
  replace HB := Aside0.mk (below_drew1 HB.out)
  refine start_ (n := 13) (S := fun w' => w'.cell? ⟨gb601, 0, none⟩ = some (.slice A0_0 l0_0.length c0_0) ∧ w'.cell? ⟨gb601, 1, none⟩ = some (.int .i64 a0_1) ∧ w'.cell? ⟨gb601, 2, none⟩ = some (.string a0_2)) (ds := []) (lz_ 13 0) (by kernel_rfl) rfl rfl ⟨bc0_ BK601.out, bc1_ BK601.out, bc2_ BK601.out⟩ (fun hHeld => ?_); refine with_tabW spec_LogOk.tab1 spec_LogOk.bits1 (fun HT_ HW_ => ?_)
  generalize w4.drew = w5 at BK601 HB hHeld ⊢
  refine pt_ 0 3 1 ?_
  refine tt_ 1 4 3 ?_
  refine pt_ 2 5 7 ?_
  refine pt_ 3 6 15 ?_
  refine pt_ 4 7 31 ?_
  refine pt_ 5 8 63 ?_
  refine pt_ 7 10 191 ?_
  refine tt_ 6 9 255 ?_
  refine tt_ 8 11 511 ?_
  refine one_ (i := 9) (N := some 12) (lz_ 13 1023) rfl rfl (one_of HT_.out (by kernel_rfl)) (by decide) (fun K hK => ?_)
  refine gf_ Tryz.func110 (spec_HeadOf.calls k _ _ l0_0 t602 t603 _ (cb_ HR0_0 HB) HC0_0.out A3.out) ?_
  rintro e w6 ⟨rfl, hb⟩
  refine ⟨_, rfl, ?_⟩
  replace BK601 := kl_ BK601 hb
  replace HB := ss_ HB hb
  clear hb
  refine hK.out _ _ ⟨bc0_ BK601.out, bc1_ BK601.out, bc2_ BK601.out⟩ (fun hHeld => ?_)
  clear hK K
  refine no_ 12 ?_
  refine pt_ 10 13 2047 ?_
  refine pt_ 11 14 4095 ?_
  refine pt_ 12 2 8191 ?_
  refine done_ (done_of HT_.out (by kernel_rfl)) ?_
  try go_wp2
  go_ret
  exact ⟨e2_, bw_ HB⟩
 ·have c2b0 := decide_eq_false c2
  have c2b1 : decide (l0_0.length ≤ 200) = false := decide_eq_false (by omega)
  clear c2
  obtain rfl := Option.some.inj H
  go_enter Tryz.func107, Tryz.ntmps107
  try go_wp2_with (first | ((with_reducible refine gd_ 1 ?_); refine bx_ 1 39 #[.slice A0_0 l0_0.length c0_0, .int .i64 a0_1, .string a0_2] ?_; intro gb601 hg w7 hbox hb; have BK601 := Aside0.mk hbox; have GW601 := gg_ hg HB; have GE601 := GW601; replace HB := ss_ HB hb; clear hb hbox hg))
  replace BK601 := Aside0.mk (blk_drew BK601.out)
  replace HB := Aside0.mk (below_drew1 HB.out)
  refine start_ (n := 13) (S := fun w' => w'.cell? ⟨gb601, 0, none⟩ = some (.slice A0_0 l0_0.length c0_0) ∧ w'.cell? ⟨gb601, 1, none⟩ = some (.int .i64 a0_1) ∧ w'.cell? ⟨gb601, 2, none⟩ = some (.string a0_2)) (ds := []) (lz_ 13 0) (by kernel_rfl) rfl rfl ⟨bc0_ BK601.out, bc1_ BK601.out, bc2_ BK601.out⟩ (fun hHeld => ?_); refine with_tabW spec_LogOk.tab1 spec_LogOk.bits1 (fun HT_ HW_ => ?_)
  generalize w7.drew = w8 at BK601 HB hHeld ⊢
  refine pt_ 0 3 1 ?_
  refine tt_ 1 4 3 ?_
  refine pt_ 2 5 7 ?_
  refine pt_ 3 6 15 ?_
  refine pt_ 4 7 31 ?_
  refine ut_ 5 8 63 ?_
  refine ut_ 6 9 127 ?_
  refine ut_ 7 10 255 ?_
  refine ut_ 8 11 511 ?_
  refine ut_ 9 12 1023 ?_
  refine ut_ 10 13 2047 ?_
  refine pt_ 11 14 4095 ?_
  refine pt_ 12 2 8191 ?_
  refine done_ (done_of HT_.out (by kernel_rfl)) ?_
  try go_wp2
  go_ret
  exact ⟨e2_, bw_ HB⟩
end Go.Proofs.YtnlndmoecljicaaGreat.Q
end
section
namespace Go.Proofs.YtnlndmoecljicaaGreat.Q
open Go.RowKit Go.Proofs.YtnlndmoecljicaaGreat.B Go.Proofs.YtnlndmoecljicaaGreatW.PrintWords Go.Proofs.YtnlndmoecljicaaGreatW.PrintMore
set_option linter.unusedVariables false
def logOk (l : List ByteArray) (n : Int) (s : ByteArray) : Bool := if (l.length : Int) ≤ 200 then (n == (headOf l).1 && (s.toList == (headOf l).2.toList)) else false
theorem spec_LogOk_ev (l : List ByteArray) (n : Int) (s : ByteArray) (hs : ∀ x ∈ l, x.size ≤ bigB) : Ev (fun k => spec_LogOk.f k l n s) (logOk l n s) := by
 unfold spec_LogOk.f logOk
 by_cases h : (l.length : Int) ≤ 200
 ·rw [if_pos h]
  exact Ev.pos h (Ev.bind (spec_HeadOf_ev l hs) (Ev.now _))
 ·rw [if_neg h]
  exact Ev.neg h (Ev.now _)
theorem impl_LogOk_ev (l : List ByteArray) (n : Int) (s : ByteArray) (hs : ∀ x ∈ l, x.size ≤ bigB) : Ev (fun k => impl_LogOk.f k l n s) (logOk l n s) := by
 unfold impl_LogOk.f logOk
 by_cases h : (l.length : Int) ≤ 200
 ·rw [if_pos h]
  exact Ev.pos h (Ev.bind (impl_HeadOf_ev l hs) (Ev.now _))
 ·rw [if_neg h]
  exact Ev.neg h (Ev.now _)
end Go.Proofs.YtnlndmoecljicaaGreat.Q
end
section
-- Written by a program of this session (wip/tools/pp.sh) over the print of the kit.
namespace Go.Proofs.YtnlndmoecljicaaGreat.Q
open Go.RowKit Go.Proofs.YtnlndmoecljicaaGreatW.PrintWords Go.Proofs.YtnlndmoecljicaaGreatW.PrintLast Go.Proofs.YtnlndmoecljicaaGreatW.PrintMore
attribute [local go_sem] max2_int min2_int max_two min_two max_three min_three max_four min_four   -- for this text's walks alone
set_option linter.unusedVariables false
set_option linter.unusedSimpArgs false
def spec_LogNew.f (k : Nat)  : Option (List ByteArray × Int × ByteArray) := (spec_HeadOf.f k (([] : List ByteArray))).bind fun bt605 => (some (([] : List ByteArray), bt605.1, bt605.2))
set_option maxHeartbeats 8000000 in
set_option maxRecDepth 100000 in
theorem spec_LogNew.calls (k : Nat)  (r1 : List ByteArray) (r2 : Int) (r3 : ByteArray) (w : World) (h : spec_LogNew.f k  = some (r1, r2, r3)) :
  Calls Tryz.prog 137 #[] w fun e w' => ∃ v0_ : Value, e = .returned (.agg #[v0_, .int .i64 r2, .string r3]) ∧ Kd.R Kd.string 9 w' w.heap.size (fun _ => True) v0_ r1 ∧ Below w.heap.size w w' := by
 have hu39 := Tryz.underlying39
 have HB := Aside0.mk (Below.refl w.heap.size w)
 have H : ((spec_HeadOf.f k (([] : List ByteArray))).bind fun bt605 => (some (([] : List ByteArray), bt605.1, bt605.2))) = some (r1, r2, r3) := h
 clear h
 obtain ⟨y602, hy602⟩ : ∃ y_ : List ByteArray, y_ = (([] : List ByteArray)) := ⟨_, rfl⟩
 replace H : ((spec_HeadOf.f k y602).bind fun bt605 => (some (([] : List ByteArray), bt605.1, bt605.2))) = some (r1, r2, r3) := yh_ hy602 H
 have Ny602 := Aside0.mk hy602
 clear hy602
 replace H := bi_ H; obtain ⟨⟨t605, t606⟩, A1, H⟩ := H
 dsimp only at H
 replace H := so3_ H; obtain ⟨rfl, rfl, rfl⟩ := H
 go_enter Tryz.func137, Tryz.ntmps137
 go_wp2_with (first | ((with_reducible refine gd_ 0 ?_); refine bx_ 0 39 #[.slice none 0 0, .int .i64 0, .string (⟨#[]⟩ : ByteArray)] ?_; intro gb601 hg w2 hbox hb; have BK601 := Aside0.mk hbox; have GW601 := gg_ hg HB; have GE601 := GW601; replace HB := ss_ HB hb; clear hb hbox hg) | ((with_reducible refine gd_ 1 ?_); refine rl_ Kd.string 9 1 ([] : List ByteArray) [] ?_; intro v603 w3 ho4 hb hg_ hnew_; clear hg_ hnew_; (first | rw [← Ny602.out] at ho4 | (simp only [Int.reduceToNat] at ho4; rw [← Ny602.out] at ho4)); have HO604 := Aside0.mk (Kd.R_lower ho4 (sz_ HB)); replace BK601 := kl_ BK601 hb; replace HB := ss_ HB hb; clear hb ho4; obtain ⟨Ao5, co5, eo5⟩ := Kd.R_slice HO604.out; subst eo5) | ((with_reducible refine gq_ 110 2 ?_); refine gc_ 2 Tryz.func110 (spec_HeadOf.calls k _ _ y602 t605 t606 _ (ch_ HO604) (cl_ HO604) A1.out) ?_; rintro e w6 ⟨rfl, hb⟩; refine ⟨_, rfl, ?_⟩; replace HO604 := rb_ HO604 hb; replace BK601 := kl_ BK601 hb; replace HB := ss_ HB hb; clear hb; have hz7 := cz3_ BK601))
 refine bodyPost_ret (results_cell_row rfl _ _ gb601 39 #[.slice none 0 0, .int .i64 t605, .string t606] (0, 0) _ rfl (by exact kq_ BK601) Tryz.underlying39 rfl (by kernel_rfl)) rfl ?_
 exact ⟨_, e2_, by first | exact Kd.R_nil _ _ _ _ _ | exact Kd.N_nil _ _ _ _ _ | exact Kd.V_nil _ _ _ _ _ | exact Kd.Q_nil _ _ _ _ _ | exact Kd.S_nil _ _ _ _ _, bw_ HB⟩
end Go.Proofs.YtnlndmoecljicaaGreat.Q
end
