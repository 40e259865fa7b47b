/- The reference's tiles of a tree over a list, and that the program's and the reference's are one for all numbers. Plain. -/
import Derived.Test.YtnekmofpamnceaaTiles
import Derived.Test.YtnekmofpamnceaaJB3
import Derived.Test.YtnekmofpamnceaaQf46
import Derived.Test.YtnekmofpamnceaaQf86
import Derived.Test.YtnekmofpamnceaaQf87
namespace Go.Proofs.Ytnekmofpamnceaa.Q
open Go.RowKit Go.Proofs.Ytnekmofpamnceaa.B Go.Proofs.YtnekmofpamnceaaW.PrintWords Go.Proofs.YtnekmofpamnceaaW.PrintMore
set_option linter.unusedVariables false
set_option linter.unusedSimpArgs false

theorem spec_span_ev (v : Nat) (h : v ≤ 3) : Ev (fun k => spec_l9Span.f k (v : Int)) ((span v : Nat) : Int) := by
  have main : ∀ (d j : Nat), j + d = v → Ev (fun k => spec_l9Span.l0 k (v : Int) ((4 ^ j : Nat) : Int) (j : Int)) ((span v : Nat) : Int) := by
    intro d
    induction d with
    | zero =>
      intro j hj
      obtain rfl : j = v := by omega
      refine Ev.step (f := fun _ => some ((span j : Nat) : Int)) (fun k => ?_) (Ev.now _)
      simp only [spec_l9Span.l0]
      rw [if_neg (by omega)]
      rfl
    | succ d ih =>
      intro j hj
      have hp : 4 ^ (j + 1) ≤ 4 ^ 3 := Nat.pow_le_pow_right (by decide) (by omega)
      have hs : 4 ^ (j + 1) = 4 ^ j * 4 := Nat.pow_succ _ _
      have h3 : 4 ^ 3 = 64 := by decide
      refine Ev.step (fun k => ?_) (ih (j + 1) (by omega))
      simp only [spec_l9Span.l0]
      rw [if_pos (by omega), w64 (x := 4 * ((4 ^ j : Nat) : Int)) (by omega) (by omega), w64 (x := (j : Int) + 1) (by omega) (by omega)]
      congr 1
      omega
  exact main v 0 (by omega)
theorem spec_count_ev (n v : Nat) (hn : n ≤ 200) (hv : v ≤ 3) : Ev (fun k => spec_TileCount.f k (n : Int) (v : Int)) (((n / span v + 3) / 4 : Nat) : Int) := by
  have hp := span_pos v
  have hd : n / span v ≤ n := Nat.div_le_self _ _
  have e : Int.tdiv (n : Int) ((span v : Nat) : Int) = ((n / span v : Nat) : Int) := by simp
  unfold spec_TileCount.f
  refine Ev.bind (Ev.const (spec_in_eq _ _ _)) (Ev.pos (decide_eq_true (by omega)) (Ev.bind (Ev.const (spec_in_eq _ _ _)) (Ev.pos (decide_eq_true (by omega)) (Ev.bind (spec_span_ev v hv) (Ev.neg (by omega) (Ev.one (Ev.now _) ?_))))))
  rw [e]
  clear e
  generalize n / span v = q at hd ⊢
  rw [w64 (x := (q : Int)) (by omega) (by omega), w64 (x := (q : Int) + 3) (by omega) (by omega), Int.tdiv_eq_ediv_of_nonneg (by omega), w64 (by omega) (by omega)]
  omega
theorem spec_tile_ev (l : List ByteArray) (v i : Nat) (hl : l.length ≤ 200) (hs : ∀ x ∈ l, x.size ≤ bigB) (hv : v ≤ 3) (hi : i < (l.length / span v + 3) / 4) : Ev (fun k => spec_TileOf.f k l (v : Int) (i : Int)) (tileAt l v i) := by
  have hp := span_pos v
  have hd : l.length / span v ≤ l.length := Nat.div_le_self _ _
  have hsp : span v ≤ 64 := by
    unfold span
    exact Nat.le_trans (Nat.pow_le_pow_right (by decide) hv) (by decide)
  have hfit : ∀ j, (j + 1) * span v ≤ l.length ↔ j < l.length / span v := fun j => by
    rw [← Nat.le_div_iff_mul_le hp]
    omega
  have hcount := spec_count_ev l.length v hl hv
  have hspan := spec_span_ev v hv
  obtain ⟨q, hq⟩ : ∃ q, l.length / span v = q := ⟨_, rfl⟩
  obtain ⟨sp, hspv⟩ : ∃ sp, span v = sp := ⟨_, rfl⟩
  have hnode : ∀ j, nodeAt l v j = rootBy leafH ((l.take ((j + 1) * sp)).drop (j * sp)) := fun j => by unfold nodeAt; rw [hspv]
  have htile : tileAt l v i = (List.range (min 4 (q - 4 * i))).map fun t => nodeAt l v (4 * i + t) := by unfold tileAt; rw [hq]
  have hmul : ∀ j, j ≤ 300 → j * sp ≤ 19200 := fun j hj => by
    rw [← hspv]
    exact Nat.le_trans (Nat.mul_le_mul hj hsp) (by decide)
  have hwm : ∀ j : Nat, j ≤ 300 → wrap64 ((j : Int) * (sp : Int)) = ((j * sp : Nat) : Int) := fun j hj => by
    have := hmul j hj
    rw [← Int.natCast_mul, w64 (by omega) (by omega)]
  have hws : ∀ j : Nat, j ≤ 300 → wrap64 ((j : Int) + 1) = ((j + 1 : Nat) : Int) := fun j hj => by
    rw [w64 (by omega) (by omega)]
    omega
  rw [hq] at hi hd hcount
  rw [hspv] at hspan
  simp only [hq] at hfit
  simp only [hspv] at hfit
  have hend : wrap64 (wrap64 (4 * (i : Int)) + 4) = ((4 * i + 4 : Nat) : Int) := by
    rw [w64 (x := 4 * (i : Int)) (by omega) (by omega), w64 (by omega) (by omega)]
    omega
  have main : ∀ (d t : Nat), t + d = min 4 (q - 4 * i) → Ev (fun k => spec_TileOf.l0 k l (i : Int) ((List.range t).map fun t => nodeAt l v (4 * i + t)) (sp : Int) ((4 * i + t : Nat) : Int)) (tileAt l v i) := by
    intro d
    induction d with
    | zero =>
      intro t ht
      have hdone : ((List.range t).map fun t => nodeAt l v (4 * i + t)) = tileAt l v i := by rw [htile, ← ht]; rfl
      rw [hdone]
      refine Ev.step (f := fun _ => some (tileAt l v i)) (fun k => ?_) (Ev.now _)
      simp only [spec_TileOf.l0]
      rw [hend, hws _ (by omega), hwm _ (by omega)]
      by_cases h4 : t < 4
      · have hj : ¬ (4 * i + t + 1) * sp ≤ l.length := by
          rw [hfit]
          omega
        rw [if_pos (by omega), if_neg (by omega)]
      · rw [if_neg (by omega)]
    | succ d ih =>
      intro t ht
      have hj : (4 * i + t + 1) * sp ≤ l.length := (hfit _).2 (by omega)
      have hm : (4 * i + t) * sp ≤ (4 * i + t + 1) * sp := Nat.mul_le_mul_right _ (by omega)
      have hi2 := ih (t + 1) (by omega)
      rw [List.range_succ, List.map_append, List.map_cons, List.map_nil] at hi2
      have hr := rooted_spec l.length ((l.take ((4 * i + t + 1) * sp)).drop ((4 * i + t) * sp)) (by simp; omega) (by simp; omega) (mem_drop_of (mem_take_of hs))
      rw [← hnode] at hr
      have hln : ((List.range t).map fun t => nodeAt l v (4 * i + t)).length = t := by simp
      refine Ev.step (fun k => ?_) (Ev.bind (f := fun k z => spec_TileOf.l0 k l (i : Int) (((List.range t).map fun t => nodeAt l v (4 * i + t)) ++ [z]) (sp : Int) ((4 * i + (t + 1) : Nat) : Int)) hr hi2)
      simp only [spec_TileOf.l0]
      rw [hend, hws _ (by omega), hwm _ (by omega), hwm _ (by omega), if_pos (by omega), if_pos (by omega), if_pos (by omega), if_pos (by omega), hln]
      simp only [Int.toNat_natCast]
      congr 1
      funext z
      rw [if_pos (by omega)]
      rfl
  unfold spec_TileOf.f
  simp only [Option.bind_some]
  refine Ev.bind hcount ?_
  rw [w64 (x := (((q + 3) / 4 : Nat) : Int) - 1) (by omega) (by omega)]
  refine Ev.bind (Ev.const (spec_in_eq _ _ _)) (Ev.pos (decide_eq_true (by omega)) (Ev.bind hspan ?_))
  rw [w64 (x := 4 * (i : Int)) (by omega) (by omega)]
  exact main (min 4 (q - 4 * i)) 0 (by omega)
theorem spec_tile_none (l : List ByteArray) (v i : Int) (c : Int) (hc : Ev (fun k => spec_TileCount.f k (l.length : Int) v) c) (h0 : 0 ≤ c) (h1 : c ≤ 1000) (h : ¬ (0 ≤ i ∧ i < c)) : Ev (fun k => spec_TileOf.f k l v i) ([] : List ByteArray) := by
  unfold spec_TileOf.f
  simp only [Option.bind_some]
  refine Ev.bind hc ?_
  rw [w64 (x := c - 1) (by omega) (by omega)]
  exact Ev.bind (Ev.const (spec_in_eq _ _ _)) (Ev.neg (by rw [decide_eq_false (by omega)]; simp) (Ev.now _))
theorem impl_tile_none (l : List ByteArray) (v i : Int) (c : Int) (hc : impl_TileCount.f (l.length : Int) v = some c) (h0 : 0 ≤ c) (h1 : c ≤ 1000) (h : ¬ (0 ≤ i ∧ i < c)) : Ev (fun k => impl_TileOf.f k l v i) ([] : List ByteArray) := by
  unfold impl_TileOf.f
  refine Ev.bind (Ev.const hc) ?_
  rw [w64 (x := c - 1) (by omega) (by omega)]
  exact Ev.bind (Ev.const (in_eq _ _ _)) (Ev.neg (by rw [decide_eq_false (by omega)]; simp) (Ev.now _))
theorem count_none (l : List ByteArray) (v : Int) (h : ¬ (l.length ≤ 200 ∧ 0 ≤ v ∧ v ≤ 3)) : Ev (fun k => spec_TileCount.f k (l.length : Int) v) 0 ∧ impl_TileCount.f (l.length : Int) v = some 0 := by
  unfold spec_TileCount.f impl_TileCount.f
  by_cases hl : l.length ≤ 200
  · refine ⟨Ev.bind (Ev.const (spec_in_eq _ _ _)) (Ev.pos (decide_eq_true (by omega)) (Ev.bind (Ev.const (spec_in_eq _ _ _)) (Ev.neg (by rw [decide_eq_false (by omega)]; simp) (Ev.now _)))), ?_⟩
    simp only [in_eq]
    rw [decide_eq_true (by omega), decide_eq_false (by omega)]
    rfl
  · refine ⟨Ev.bind (Ev.const (spec_in_eq _ _ _)) (Ev.neg (by rw [decide_eq_false (by omega)]; simp) (Ev.now _)), ?_⟩
    simp only [in_eq]
    rw [decide_eq_false (by omega)]
    rfl
theorem tile_all (l : List ByteArray) (v i : Int) (hs : ∀ x ∈ l, x.size ≤ bigB) : ∃ r, Ev (fun k => spec_TileOf.f k l v i) r ∧ Ev (fun k => impl_TileOf.f k l v i) r ∧ r.length ≤ 4 := by
  by_cases h : l.length ≤ 200 ∧ 0 ≤ v ∧ v ≤ 3
  · obtain ⟨h1, h2, h3⟩ := h
    obtain ⟨w, rfl⟩ := Int.eq_ofNat_of_zero_le h2
    have hd : l.length / span w ≤ l.length := Nat.div_le_self _ _
    by_cases hi : 0 ≤ i ∧ i < (((l.length / span w + 3) / 4 : Nat) : Int)
    · obtain ⟨j, rfl⟩ := Int.eq_ofNat_of_zero_le hi.1
      exact ⟨tileAt l w j, spec_tile_ev l w j h1 hs (by omega) (by omega), tileOf_ev l w j h1 hs (by omega) (by omega), by rw [tileAt_length]; omega⟩
    · have c0 : (0 : Int) ≤ (((l.length / span w + 3) / 4 : Nat) : Int) := Int.natCast_nonneg _
      have c1 : (((l.length / span w + 3) / 4 : Nat) : Int) ≤ 1000 := by
        generalize l.length / span w = q at hd ⊢
        omega
      exact ⟨[], spec_tile_none l w i _ (spec_count_ev l.length w h1 (by omega)) c0 c1 hi, impl_tile_none l w i _ (tileCount_eq l.length w h1 (by omega)) c0 c1 hi, by simp⟩
  · obtain ⟨c1, c2⟩ := count_none l v h
    exact ⟨[], spec_tile_none l v i 0 c1 (by omega) (by omega) (by omega), impl_tile_none l v i 0 c2 (by omega) (by omega) (by omega), by simp⟩
end Go.Proofs.Ytnekmofpamnceaa.Q
