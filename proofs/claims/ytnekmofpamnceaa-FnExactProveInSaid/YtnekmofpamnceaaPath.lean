/- The paths that prove a text of a list: the program's and the reference's are one. Plain. -/
import Derived.Test.YtnekmofpamnceaaJB3
import Derived.Test.YtnekmofpamnceaaQf97
import Derived.Test.YtnekmofpamnceaaQf96
namespace Go.Proofs.Ytnekmofpamnceaa.Q
open Go.RowKit Go.Proofs.Ytnekmofpamnceaa.B Go.Proofs.YtnekmofpamnceaaW.PrintWords Go.Proofs.YtnekmofpamnceaaW.PrintMore
set_option linter.unusedVariables false
set_option linter.unusedSimpArgs false

/-- The path of text i. -/
def pathOf (l : List ByteArray) (i : Nat) : List ByteArray :=
  if h : 2 ≤ l.length then
    if i < half l.length then pathOf (l.take (half l.length)) i ++ [rootBy leafH (l.drop (half l.length))]
    else pathOf (l.drop (half l.length)) (i - half l.length) ++ [rootBy leafH (l.take (half l.length))]
  else []
termination_by l.length
decreasing_by
  · have := half_lt h
    simp
    omega
  · have := half_pos l.length
    simp
    omega
theorem pathOf_left {l : List ByteArray} {i : Nat} (h : 2 ≤ l.length) (hi : i < half l.length) : pathOf l i = pathOf (l.take (half l.length)) i ++ [rootBy leafH (l.drop (half l.length))] := by
  rw [pathOf, dif_pos h, if_pos hi]
theorem pathOf_right {l : List ByteArray} {i : Nat} (h : 2 ≤ l.length) (hi : ¬ i < half l.length) : pathOf l i = pathOf (l.drop (half l.length)) (i - half l.length) ++ [rootBy leafH (l.take (half l.length))] := by
  rw [pathOf, dif_pos h, if_neg hi]
theorem pathOf_few {l : List ByteArray} {i : Nat} (h : ¬ 2 ≤ l.length) : pathOf l i = [] := by
  rw [pathOf, dif_neg h]
theorem pathOf_length : ∀ (n : Nat) (l : List ByteArray) (i : Nat), l.length ≤ n → (pathOf l i).length ≤ l.length := by
  intro n
  induction n with
  | zero =>
    intro l i h
    rw [pathOf_few (by omega)]
    simp
  | succ n ih =>
    intro l i hl
    by_cases h : 2 ≤ l.length
    · obtain ⟨p1, p2, p3, p4⟩ := cut_parts l h
      by_cases hi : i < half l.length
      · have := ih (l.take (half l.length)) i (by omega)
        rw [pathOf_left h hi, List.length_append, List.length_singleton]
        omega
      · have := ih (l.drop (half l.length)) (i - half l.length) (by omega)
        rw [pathOf_right h hi, List.length_append, List.length_singleton]
        omega
    · rw [pathOf_few h]
      simp
theorem take_len {l : List ByteArray} {k : Nat} (h : k ≤ l.length) : (l.take k).length = k := by simp; omega
theorem drop_len (l : List ByteArray) (k : Nat) : (l.drop k).length = l.length - k := by simp
theorem spec_path_ev : ∀ (n : Nat) (l : List ByteArray) (i : Nat), l.length ≤ n → i < l.length → l.length ≤ 1048576 → (∀ x ∈ l, x.size ≤ bigB) → Ev (fun k => spec_l6Path.f k l (i : Int)) (pathOf l i) := by
  intro n
  induction n with
  | zero =>
    intro l i h1 h2
    omega
  | succ n ih =>
    intro l i h1 h2 h3 hs
    by_cases h : 2 ≤ l.length
    · obtain ⟨p1, p2, p3, p4⟩ := cut_parts l h
      have hh := half_lt h
      have ht := take_len (l := l) (k := half l.length) (by omega)
      have hd := drop_len l (half l.length)
      have r1 := rooted_spec l.length (l.take (half l.length)) (by omega) (by omega) (mem_take_of hs)
      have r2 := rooted_spec l.length (l.drop (half l.length)) (by omega) (by omega) (mem_drop_of hs)
      refine Ev.step (fun k => by simp only [spec_l6Path.f]; rfl) ?_
      refine Ev.neg (by omega) (Ev.bind (spec_half l.length h (by omega)) ?_)
      by_cases hi : i < half l.length
      · rw [pathOf_left h hi]
        have e1 := ih (l.take (half l.length)) i (by omega) (by omega) (by omega) (mem_take_of hs)
        have q := pathOf_length l.length (l.take (half l.length)) i (by omega)
        exact Ev.pos (by omega) (Ev.pos (by omega) (Ev.pos (by omega) (Ev.bind e1 (Ev.bind r2 (Ev.pos (by omega) (Ev.now _))))))
      · rw [pathOf_right h hi]
        have e1 := ih (l.drop (half l.length)) (i - half l.length) (by omega) (by omega) (by omega) (mem_drop_of hs)
        have q := pathOf_length l.length (l.drop (half l.length)) (i - half l.length) (by omega)
        have e : wrap64 ((i : Int) - ((half l.length : Nat) : Int)) = ((i - half l.length : Nat) : Int) := by
          rw [w64 (by omega) (by omega)]
          omega
        rw [e]
        exact Ev.neg (by omega) (Ev.pos (by omega) (Ev.pos (by omega) (Ev.bind e1 (Ev.bind r1 (Ev.pos (by omega) (Ev.now _))))))
    · rw [pathOf_few h]
      refine Ev.step (fun k => by simp only [spec_l6Path.f]; rfl) ?_
      exact Ev.pos (by omega) (Ev.now _)
theorem impl_path_ev : ∀ (n : Nat) (l : List ByteArray) (i : Nat), l.length ≤ n → i < l.length → l.length ≤ 1048576 → (∀ x ∈ l, x.size ≤ bigB) → Ev (fun k => impl_inPath.f k l (i : Int)) (pathOf l i) := by
  intro n
  induction n with
  | zero =>
    intro l i h1 h2
    omega
  | succ n ih =>
    intro l i h1 h2 h3 hs
    by_cases h : 2 ≤ l.length
    · obtain ⟨p1, p2, p3, p4⟩ := cut_parts l h
      have hh := half_lt h
      have ht := take_len (l := l) (k := half l.length) (by omega)
      have hd := drop_len l (half l.length)
      have r1 := rooted_impl l.length (l.take (half l.length)) (by omega) (by omega) (mem_take_of hs)
      have r2 := rooted_impl l.length (l.drop (half l.length)) (by omega) (by omega) (mem_drop_of hs)
      refine Ev.step (fun k => by simp only [impl_inPath.f]; rfl) ?_
      refine Ev.neg (by omega) (Ev.bind (impl_half_ev l.length h (by omega)) ?_)
      by_cases hi : i < half l.length
      · rw [pathOf_left h hi]
        have e1 := ih (l.take (half l.length)) i (by omega) (by omega) (by omega) (mem_take_of hs)
        have q := pathOf_length l.length (l.take (half l.length)) i (by omega)
        exact Ev.pos (by omega) (Ev.pos (by omega) (Ev.pos (by omega) (Ev.bind e1 (Ev.bind r2 (Ev.pos (by omega) (Ev.now _))))))
      · rw [pathOf_right h hi]
        have e1 := ih (l.drop (half l.length)) (i - half l.length) (by omega) (by omega) (by omega) (mem_drop_of hs)
        have q := pathOf_length l.length (l.drop (half l.length)) (i - half l.length) (by omega)
        have e : wrap64 ((i : Int) - ((half l.length : Nat) : Int)) = ((i - half l.length : Nat) : Int) := by
          rw [w64 (by omega) (by omega)]
          omega
        rw [e]
        exact Ev.neg (by omega) (Ev.pos (by omega) (Ev.pos (by omega) (Ev.bind e1 (Ev.bind r1 (Ev.pos (by omega) (Ev.now _))))))
    · rw [pathOf_few h]
      refine Ev.step (fun k => by simp only [impl_inPath.f]; rfl) ?_
      exact Ev.pos (by omega) (Ev.now _)
end Go.Proofs.Ytnekmofpamnceaa.Q
