/- The tiles of a tree over a list: how many, which nodes. Plain. -/
import Derived.Test.YtnekmofpamnceaaJB3
import Derived.Test.YtnekmofpamnceaaQf47
import Derived.Test.YtnekmofpamnceaaQf88
namespace Go.Proofs.Ytnekmofpamnceaa.Q
open Go.RowKit Go.Proofs.Ytnekmofpamnceaa.B Go.Proofs.YtnekmofpamnceaaW.PrintWords Go.Proofs.YtnekmofpamnceaaW.PrintMore
set_option linter.unusedVariables false
set_option linter.unusedSimpArgs false

theorem in_eq (a b c : Int) : impl_inRange.f a b c = some (decide (b ≤ a ∧ a ≤ c)) := by
  unfold impl_inRange.f
  by_cases h : a ≥ b
  · rw [if_pos h]
    by_cases h2 : a ≤ c
    · rw [decide_eq_true h2, decide_eq_true ⟨h, h2⟩]
    · rw [decide_eq_false h2, decide_eq_false (fun q => h2 q.2)]
  · rw [if_neg h, decide_eq_false (fun q => h q.1)]
def span (v : Nat) : Nat := 4 ^ v
theorem spanOf_eq (v : Nat) (h : v ≤ 3) : impl_spanOf.f (v : Int) = some ((span v : Nat) : Int) := by
  match v, h with
  | 0, _ => decide +kernel
  | 1, _ => decide +kernel
  | 2, _ => decide +kernel
  | 3, _ => decide +kernel
theorem span_pos (v : Nat) : 1 ≤ span v := Nat.pow_pos (by decide)
theorem tileCount_eq (n v : Nat) (hn : n ≤ 200) (hv : v ≤ 3) : impl_TileCount.f (n : Int) (v : Int) = some (((n / span v + 3) / 4 : Nat) : Int) := by
  unfold impl_TileCount.f
  simp only [in_eq]
  rw [decide_eq_true (by omega), decide_eq_true (by omega), spanOf_eq v hv]
  simp only [Option.bind_some]
  have hp := span_pos v
  have hd : n / span v ≤ n := Nat.div_le_self _ _
  rw [if_pos trivial, if_pos trivial, if_neg (by omega)]
  have e : Int.tdiv (n : Int) ((span v : Nat) : Int) = ((n / span v : Nat) : Int) := by simp
  rw [e]
  clear e
  generalize n / span v = q at hd ⊢
  rw [w64 (x := (q : Int)) (by omega) (by omega), w64 (x := (q : Int) + 4) (by omega) (by omega), w64 (x := (q : Int) + 4 - 1) (by omega) (by omega), Int.tdiv_eq_ediv_of_nonneg (by omega), w64 (by omega) (by omega)]
  congr 1
  omega
/-- Node j of level v. -/
def nodeAt (l : List ByteArray) (v j : Nat) : ByteArray := rootBy leafH ((l.take ((j + 1) * span v)).drop (j * span v))
/-- The nodes of tile i of level v. -/
def tileAt (l : List ByteArray) (v i : Nat) : List ByteArray := (List.range (min 4 (l.length / span v - 4 * i))).map fun t => nodeAt l v (4 * i + t)
theorem tileAt_length (l : List ByteArray) (v i : Nat) : (tileAt l v i).length = min 4 (l.length / span v - 4 * i) := by simp [tileAt]
theorem tileOf_ev (l : List ByteArray) (v i : Nat) (hl : l.length ≤ 200) (hs : ∀ x ∈ l, x.size ≤ bigB) (hv : v ≤ 3) (hi : i < (l.length / span v + 3) / 4) : Ev (fun k => impl_TileOf.f k l (v : Int) (i : Int)) (tileAt l v i) := by
  have hp := span_pos v
  have hd : l.length / span v ≤ l.length := Nat.div_le_self _ _
  have hsp : span v ≤ 64 := by
    unfold span
    exact Nat.le_trans (Nat.pow_le_pow_right (by decide) hv) (by decide)
  have hfit : ∀ j, (j + 1) * span v ≤ l.length ↔ j < l.length / span v := fun j => by
    rw [← Nat.le_div_iff_mul_le hp]
    omega
  obtain ⟨q, hq⟩ : ∃ q, l.length / span v = q := ⟨_, rfl⟩
  obtain ⟨sp, hspv⟩ : ∃ sp, span v = sp := ⟨_, rfl⟩
  have hnode : ∀ j, nodeAt l v j = rootBy leafH ((l.take ((j + 1) * sp)).drop (j * sp)) := fun j => by unfold nodeAt; rw [hspv]
  have htile : tileAt l v i = (List.range (min 4 (q - 4 * i))).map fun t => nodeAt l v (4 * i + t) := by unfold tileAt; rw [hq]
  have hmul : ∀ j, j ≤ 300 → j * sp ≤ 19200 := fun j hj => by
    rw [← hspv]
    exact Nat.le_trans (Nat.mul_le_mul hj hsp) (by decide)
  have hwm : ∀ j : Nat, j ≤ 300 → wrap64 ((j : Int) * (sp : Int)) = ((j * sp : Nat) : Int) := fun j hj => by
    have := hmul j hj
    rw [← Int.natCast_mul, w64 (by omega) (by omega)]
  have hws : ∀ j : Nat, j ≤ 300 → wrap64 ((j : Int) + 1) = ((j + 1 : Nat) : Int) := fun j hj => by
    rw [w64 (by omega) (by omega)]
    omega
  have hend : wrap64 (4 * wrap64 ((i : Int) + 1)) = ((4 * i + 4 : Nat) : Int) := by
    rw [hws i (by omega), w64 (by omega) (by omega)]
    omega
  rw [hq] at hi hd
  simp only [hq] at hfit
  simp only [hspv] at hfit
  have main : ∀ (d t : Nat), t + d = min 4 (q - 4 * i) → Ev (fun k => impl_TileOf.l0 k l (i : Int) (sp : Int) ((List.range t).map fun t => nodeAt l v (4 * i + t)) ((4 * i + t : Nat) : Int)) (tileAt l v i) := by
    intro d
    induction d with
    | zero =>
      intro t ht
      have hdone : ((List.range t).map fun t => nodeAt l v (4 * i + t)) = tileAt l v i := by rw [htile, ← ht]; rfl
      rw [hdone]
      refine Ev.step (f := fun _ => some (tileAt l v i)) (fun k => ?_) (Ev.now _)
      simp only [impl_TileOf.l0]
      rw [hend, hws _ (by omega), hwm _ (by omega)]
      by_cases h4 : t < 4
      · have hj : ¬ (4 * i + t + 1) * sp ≤ l.length := by
          rw [hfit]
          omega
        rw [if_pos (by omega), if_neg (by omega)]
      · rw [if_neg (by omega)]
    | succ d ih =>
      intro t ht
      have hj : (4 * i + t + 1) * sp ≤ l.length := (hfit _).2 (by omega)
      have hm : (4 * i + t) * sp ≤ (4 * i + t + 1) * sp := Nat.mul_le_mul_right _ (by omega)
      have hi2 := ih (t + 1) (by omega)
      rw [List.range_succ, List.map_append, List.map_cons, List.map_nil] at hi2
      have hr := rooted_impl l.length ((l.take ((4 * i + t + 1) * sp)).drop ((4 * i + t) * sp)) (by simp; omega) (by simp; omega) (mem_drop_of (mem_take_of hs))
      rw [← hnode] at hr
      have hln : ((List.range t).map fun t => nodeAt l v (4 * i + t)).length = t := by simp
      refine Ev.step (fun k => ?_) (Ev.bind (f := fun k z => impl_TileOf.l0 k l (i : Int) (sp : Int) (((List.range t).map fun t => nodeAt l v (4 * i + t)) ++ [z]) ((4 * i + (t + 1) : Nat) : Int)) hr hi2)
      simp only [impl_TileOf.l0]
      rw [hend, hws _ (by omega), hwm _ (by omega), hwm _ (by omega), if_pos (by omega), if_pos (by omega), if_pos (by omega), if_pos (by omega), hln]
      simp only [Int.toNat_natCast]
      congr 1
      funext z
      rw [if_pos (by omega)]
      rfl
  unfold impl_TileOf.f
  rw [tileCount_eq l.length v hl hv]
  simp only [Option.bind_some, in_eq]
  rw [hq, w64 (x := (((q + 3) / 4 : Nat) : Int) - 1) (by omega) (by omega), decide_eq_true (by omega)]
  simp only [Option.bind_some]
  refine Ev.pos trivial ?_
  rw [spanOf_eq v hv, hspv]
  simp only [Option.bind_some]
  rw [w64 (x := 4 * (i : Int)) (by omega) (by omega)]
  exact main (min 4 (q - 4 * i)) 0 (by omega)
end Go.Proofs.Ytnekmofpamnceaa.Q
