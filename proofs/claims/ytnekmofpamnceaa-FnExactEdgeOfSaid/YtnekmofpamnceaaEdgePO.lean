/- The program's edges of lists. Plain. -/
import Derived.Test.YtnekmofpamnceaaEdgeP
import Derived.Test.YtnekmofpamnceaaEdgeOf
namespace Go.Proofs.Ytnekmofpamnceaa.Q
open Go.RowKit Go.Proofs.Ytnekmofpamnceaa.B Go.Proofs.YtnekmofpamnceaaW.PrintWords Go.Proofs.YtnekmofpamnceaaW.PrintMore
set_option linter.unusedVariables false
set_option linter.unusedSimpArgs false

theorem edgeOfL_eq : ∀ (l : List ByteArray) (e : Nat × List ByteArray), e.1 + l.length ≤ 200 → e.2.length = pops e.1 → (∀ x ∈ e.2, x.size = 32) → (∀ x ∈ l, x.size ≤ 1048700) → edgeOfL l (e.1 : Int) e.2 = some (((edgeFrom e l).1 : Int), (edgeFrom e l).2) := by
  intro l
  induction l with
  | nil =>
    intro e h1 h2 h3 h4
    rfl
  | cons a l ih =>
    intro e h1 h2 h3 h4
    rw [List.length_cons] at h1
    have hi := ih (edgeStep e a) (by simp only [edgeStep]; omega) (carry_length 8 e.1 e.2 (leafH a) (by omega) (by omega) h2) (carry_32 8 e.1 e.2 (leafH a) h3 (leafH_size a)) (fun x hx => h4 x (List.mem_cons_of_mem _ hx))
    simp only [edgeOfL]
    rw [impl_Edge_add_eq e.1 e.2 a (by omega) h2 h3 (h4 a (by simp)), B.w64 (by omega) (by omega)]
    exact hi
theorem impl_EdgeOf_eq (l : List ByteArray) (hs : ∀ x ∈ l, x.size ≤ 1048700) : impl_EdgeOf.f l = some (edgeOf l) := by
  unfold impl_EdgeOf.f edgeOf
  by_cases h : (l.length : Int) > 200
  · rw [if_pos h, if_pos h]
  · rw [if_neg h, if_neg h]
    obtain ⟨p, _, _⟩ := edgeFrom_inv l (0, []) (by simp only; omega) (by simp only [List.length_nil]; decide) (by simp)
    have := edgeOfL_eq l (0, []) (by simp only; omega) (by simp only [List.length_nil]; decide) (by simp) hs
    rw [p] at this
    simp only [Nat.zero_add] at this
    exact this
end Go.Proofs.Ytnekmofpamnceaa.Q
