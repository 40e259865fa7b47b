/- Whether two lists of texts are the same: the program's and the reference's answers are one. Plain. -/
import Derived.Test.YtnekmofpamnceaaJB3
import Derived.Test.YtnekmofpamnceaaQf81
import Derived.Test.YtnekmofpamnceaaQf83
namespace Go.Proofs.Ytnekmofpamnceaa.Q
open Go.RowKit Go.Proofs.Ytnekmofpamnceaa.B Go.Proofs.YtnekmofpamnceaaW.PrintWords
set_option linter.unusedVariables false
set_option linter.unusedSimpArgs false

theorem nextC {i n : Nat} (h : i < n) (hn : n ≤ 9223372036854775807) : wrap64 ((i : Int) + 1) = ((i + 1 : Nat) : Int) := by
  rw [w64 (by omega) (by omega)]
  omega
theorem spec_same_ev (a b : List ByteArray) (ha : a.length ≤ 9223372036854775807) : Ev (fun k => spec_l8Same.f k a b) (decide (a = b)) := by
  unfold spec_l8Same.f
  by_cases hl : a.length = b.length
  · have main : ∀ (d i : Nat), i + d = a.length → a.take i = b.take i → Ev (fun k => spec_l8Same.l0 k a b (i : Int)) (decide (a = b)) := by
      intro d
      induction d with
      | zero =>
        intro i hi ht
        rw [List.take_of_length_le (by omega), List.take_of_length_le (by omega)] at ht
        rw [decide_eq_true ht]
        refine Ev.step (fun k => by simp only [spec_l8Same.l0]; rfl) ?_
        exact Ev.neg (by omega) (Ev.now _)
      | succ d ih =>
        intro i hi ht
        obtain ⟨x, hx⟩ := get_some (l := a) (i := i) (by omega)
        obtain ⟨y, hy⟩ := get_some (l := b) (i := i) (by omega)
        refine Ev.step (fun k => by simp only [spec_l8Same.l0]; rfl) ?_
        rw [rdOf_at hx, rdOf_at hy, nextC (show i < a.length by omega) ha]
        by_cases h : x.toList = y.toList
        · have e := bytes_ext h
          subst e
          exact Ev.pos (by omega) (Ev.pos (by omega) (Ev.pos (by omega) (Ev.pos rfl (ih (i + 1) (by omega) (by rw [take_one hx, take_one hy, ht])))))
        · have hn : ¬ a = b := by
            intro e
            subst e
            rw [hx] at hy
            exact h (by rw [Option.some.inj hy])
          rw [decide_eq_false hn]
          exact Ev.pos (by omega) (Ev.pos (by omega) (Ev.pos (by omega) (Ev.neg h (Ev.now _))))
    exact Ev.pos (by omega) (main a.length 0 (by omega) (by simp))
  · have hn : ¬ a = b := fun e => hl (by rw [e])
    rw [decide_eq_false hn]
    exact Ev.neg (by omega) (Ev.now _)
theorem impl_same_ev (a b : List ByteArray) (ha : a.length ≤ 9223372036854775807) : Ev (fun k => slices_Equal_string_string.f k a b) (decide (a = b)) := by
  unfold slices_Equal_string_string.f
  by_cases hl : a.length = b.length
  · have main : ∀ (d i : Nat), i + d = a.length → a.take i = b.take i → Ev (fun k => slices_Equal_string_string.l0 k a b (a.length : Int) (i : Int)) (decide (a = b)) := by
      intro d
      induction d with
      | zero =>
        intro i hi ht
        rw [List.take_of_length_le (by omega), List.take_of_length_le (by omega)] at ht
        rw [decide_eq_true ht]
        refine Ev.step (fun k => by simp only [slices_Equal_string_string.l0]; rfl) ?_
        exact Ev.neg (by omega) (Ev.now _)
      | succ d ih =>
        intro i hi ht
        obtain ⟨x, hx⟩ := get_some (l := a) (i := i) (by omega)
        obtain ⟨y, hy⟩ := get_some (l := b) (i := i) (by omega)
        refine Ev.step (fun k => by simp only [slices_Equal_string_string.l0]; rfl) ?_
        rw [rdOf_at hx, rdOf_at hy, nextC (show i < a.length by omega) ha]
        by_cases h : x.toList = y.toList
        · have e := bytes_ext h
          subst e
          exact Ev.pos (by omega) (Ev.pos (by omega) (Ev.pos (by omega) (Ev.pos (by omega) (Ev.pos rfl (ih (i + 1) (by omega) (by rw [take_one hx, take_one hy, ht]))))))
        · have hn : ¬ a = b := by
            intro e
            subst e
            rw [hx] at hy
            exact h (by rw [Option.some.inj hy])
          rw [decide_eq_false hn]
          exact Ev.pos (by omega) (Ev.pos (by omega) (Ev.pos (by omega) (Ev.pos (by omega) (Ev.neg h (Ev.now _)))))
    exact Ev.pos (by omega) (main a.length 0 (by omega) (by simp))
  · have hn : ¬ a = b := fun e => hl (by rw [e])
    rw [decide_eq_false hn]
    exact Ev.neg (by omega) (Ev.now _)
end Go.Proofs.Ytnekmofpamnceaa.Q
