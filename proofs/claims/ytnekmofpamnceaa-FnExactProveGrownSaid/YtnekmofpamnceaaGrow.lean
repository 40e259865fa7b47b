/- The paths that prove a beginning of a list: the program's and the reference's are one. Plain. -/
import Derived.Test.YtnekmofpamnceaaJB3
import Derived.Test.YtnekmofpamnceaaQf99
import Derived.Test.YtnekmofpamnceaaQf98
namespace Go.Proofs.Ytnekmofpamnceaa.Q
open Go.RowKit Go.Proofs.Ytnekmofpamnceaa.B Go.Proofs.YtnekmofpamnceaaW.PrintWords Go.Proofs.YtnekmofpamnceaaW.PrintMore
set_option linter.unusedVariables false
set_option linter.unusedSimpArgs false

/-- The path of the first n. -/
def growOf (l : List ByteArray) (n : Nat) (whole : Bool) : List ByteArray :=
  if n = l.length then (if whole = true then [] else [rootBy leafH l])
  else if h : 2 ≤ l.length then
    if n ≤ half l.length then growOf (l.take (half l.length)) n whole ++ [rootBy leafH (l.drop (half l.length))]
    else growOf (l.drop (half l.length)) (n - half l.length) false ++ [rootBy leafH (l.take (half l.length))]
  else []
termination_by l.length
decreasing_by
  · have := half_lt h
    simp
    omega
  · have := half_pos l.length
    simp
    omega
theorem growOf_all {l : List ByteArray} {n : Nat} (w : Bool) (h : n = l.length) : growOf l n w = if w = true then [] else [rootBy leafH l] := by
  rw [growOf, if_pos h]
theorem growOf_left {l : List ByteArray} {n : Nat} (w : Bool) (h0 : ¬ n = l.length) (h : 2 ≤ l.length) (hn : n ≤ half l.length) : growOf l n w = growOf (l.take (half l.length)) n w ++ [rootBy leafH (l.drop (half l.length))] := by
  rw [growOf, if_neg h0, dif_pos h, if_pos hn]
theorem growOf_right {l : List ByteArray} {n : Nat} (w : Bool) (h0 : ¬ n = l.length) (h : 2 ≤ l.length) (hn : ¬ n ≤ half l.length) : growOf l n w = growOf (l.drop (half l.length)) (n - half l.length) false ++ [rootBy leafH (l.take (half l.length))] := by
  rw [growOf, if_neg h0, dif_pos h, if_neg hn]
theorem growOf_few {l : List ByteArray} {n : Nat} (w : Bool) (h0 : ¬ n = l.length) (h : ¬ 2 ≤ l.length) : growOf l n w = [] := by
  rw [growOf, if_neg h0, dif_neg h]
theorem growOf_length : ∀ (m : Nat) (l : List ByteArray) (n : Nat) (w : Bool), l.length ≤ m → (growOf l n w).length ≤ l.length + 1 := by
  intro m
  induction m with
  | zero =>
    intro l n w h
    by_cases h0 : n = l.length
    · rw [growOf_all w h0]
      split <;> simp
    · rw [growOf_few w h0 (by omega)]
      simp
  | succ m ih =>
    intro l n w hl
    by_cases h0 : n = l.length
    · rw [growOf_all w h0]
      split <;> simp
    · by_cases h : 2 ≤ l.length
      · obtain ⟨p1, p2, p3, p4⟩ := cut_parts l h
        by_cases hi : n ≤ half l.length
        · have := ih (l.take (half l.length)) n w (by omega)
          rw [growOf_left w h0 h hi, List.length_append, List.length_singleton]
          omega
        · have := ih (l.drop (half l.length)) (n - half l.length) false (by omega)
          rw [growOf_right w h0 h hi, List.length_append, List.length_singleton]
          omega
      · rw [growOf_few w h0 h]
        simp
theorem gtake_len {l : List ByteArray} {k : Nat} (h : k ≤ l.length) : (l.take k).length = k := by simp; omega
theorem gdrop_len (l : List ByteArray) (k : Nat) : (l.drop k).length = l.length - k := by simp
theorem spec_grow_ev : ∀ (m : Nat) (l : List ByteArray) (n : Nat) (w : Bool), l.length ≤ m → 1 ≤ n → n ≤ l.length → l.length ≤ 1048576 → (∀ x ∈ l, x.size ≤ bigB) → Ev (fun k => spec_l6Grow.f k l (n : Int) w) (growOf l n w) := by
  intro m
  induction m with
  | zero =>
    intro l n w h1 h2 h3
    omega
  | succ m ih =>
    intro l n w h1 h2 h3 h4 hs
    refine Ev.step (fun k => by simp only [spec_l6Grow.f]; rfl) ?_
    by_cases h0 : n = l.length
    · rw [growOf_all w h0]
      refine Ev.pos (by omega) ?_
      by_cases hw : w = true
      · rw [if_pos hw]
        exact Ev.pos hw (Ev.now _)
      · rw [if_neg hw]
        exact Ev.neg hw (Ev.bind (rooted_spec l.length l (Nat.le_refl _) (by omega) hs) (Ev.now _))
    · have h : 2 ≤ l.length := by omega
      obtain ⟨p1, p2, p3, p4⟩ := cut_parts l h
      have hh := half_lt h
      have ht := gtake_len (l := l) (k := half l.length) (by omega)
      have hd := gdrop_len l (half l.length)
      have r1 := rooted_spec l.length (l.take (half l.length)) (by omega) (by omega) (mem_take_of hs)
      have r2 := rooted_spec l.length (l.drop (half l.length)) (by omega) (by omega) (mem_drop_of hs)
      refine Ev.neg (by omega) (Ev.bind (spec_half l.length h (by omega)) ?_)
      by_cases hi : n ≤ half l.length
      · rw [growOf_left w h0 h hi]
        have e1 := ih (l.take (half l.length)) n w (by omega) (by omega) (by omega) (by omega) (mem_take_of hs)
        have q := growOf_length l.length (l.take (half l.length)) n w (by omega)
        exact Ev.pos (by omega) (Ev.pos (by omega) (Ev.pos (by omega) (Ev.bind e1 (Ev.bind r2 (Ev.pos (by omega) (Ev.now _))))))
      · rw [growOf_right w h0 h hi]
        have e1 := ih (l.drop (half l.length)) (n - half l.length) false (by omega) (by omega) (by omega) (by omega) (mem_drop_of hs)
        have q := growOf_length l.length (l.drop (half l.length)) (n - half l.length) false (by omega)
        have e : wrap64 ((n : Int) - ((half l.length : Nat) : Int)) = ((n - half l.length : Nat) : Int) := by
          rw [w64 (by omega) (by omega)]
          omega
        rw [e]
        exact Ev.neg (by omega) (Ev.pos (by omega) (Ev.pos (by omega) (Ev.bind e1 (Ev.bind r1 (Ev.pos (by omega) (Ev.now _))))))
theorem impl_grow_ev : ∀ (m : Nat) (l : List ByteArray) (n : Nat) (w : Bool), l.length ≤ m → 1 ≤ n → n ≤ l.length → l.length ≤ 1048576 → (∀ x ∈ l, x.size ≤ bigB) → Ev (fun k => impl_growFrom.f k l (n : Int) w) (growOf l n w) := by
  intro m
  induction m with
  | zero =>
    intro l n w h1 h2 h3
    omega
  | succ m ih =>
    intro l n w h1 h2 h3 h4 hs
    refine Ev.step (fun k => by simp only [impl_growFrom.f]; rfl) ?_
    by_cases h0 : n = l.length
    · rw [growOf_all w h0]
      refine Ev.pos (by omega) ?_
      by_cases hw : w = true
      · rw [if_pos hw]
        exact Ev.pos hw (Ev.now _)
      · rw [if_neg hw]
        exact Ev.neg hw (Ev.bind (rooted_impl l.length l (Nat.le_refl _) (by omega) hs) (Ev.now _))
    · have h : 2 ≤ l.length := by omega
      obtain ⟨p1, p2, p3, p4⟩ := cut_parts l h
      have hh := half_lt h
      have ht := gtake_len (l := l) (k := half l.length) (by omega)
      have hd := gdrop_len l (half l.length)
      have r1 := rooted_impl l.length (l.take (half l.length)) (by omega) (by omega) (mem_take_of hs)
      have r2 := rooted_impl l.length (l.drop (half l.length)) (by omega) (by omega) (mem_drop_of hs)
      refine Ev.neg (by omega) (Ev.bind (impl_half_ev l.length h (by omega)) ?_)
      by_cases hi : n ≤ half l.length
      · rw [growOf_left w h0 h hi]
        have e1 := ih (l.take (half l.length)) n w (by omega) (by omega) (by omega) (by omega) (mem_take_of hs)
        have q := growOf_length l.length (l.take (half l.length)) n w (by omega)
        exact Ev.pos (by omega) (Ev.pos (by omega) (Ev.pos (by omega) (Ev.bind e1 (Ev.bind r2 (Ev.pos (by omega) (Ev.now _))))))
      · rw [growOf_right w h0 h hi]
        have e1 := ih (l.drop (half l.length)) (n - half l.length) false (by omega) (by omega) (by omega) (by omega) (mem_drop_of hs)
        have q := growOf_length l.length (l.drop (half l.length)) (n - half l.length) false (by omega)
        have e : wrap64 ((n : Int) - ((half l.length : Nat) : Int)) = ((n - half l.length : Nat) : Int) := by
          rw [w64 (by omega) (by omega)]
          omega
        rw [e]
        exact Ev.neg (by omega) (Ev.pos (by omega) (Ev.pos (by omega) (Ev.bind e1 (Ev.bind r1 (Ev.pos (by omega) (Ev.now _))))))
end Go.Proofs.Ytnekmofpamnceaa.Q
