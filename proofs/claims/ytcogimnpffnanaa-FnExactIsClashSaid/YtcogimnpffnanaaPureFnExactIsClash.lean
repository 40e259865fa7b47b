/- The program's IsClash and the reference's return the same for all texts and numbers; no condition. -/
import Derived.Test.YtcogimnpffnanaaIsClash
import Derived.Test.YtcogimnpffnanaaLawFnExactIsClash
namespace Go.Proofs.Ytcogimnpffnanaa.Q
open Go.RowKit Go.Proofs.Ytcogimnpffnanaa.B Go.Proofs.YtcogimnpffnanaaW.PrintWords

theorem pure_FnExactIsClash : laws_FnExactIsClash.Pure := by
  intro a b k ga gb gk
  unfold laws_FnExactIsClash.f
  by_cases ha : (a.size : Int) > 1048576
  · rw [if_pos ha]
  · rw [if_neg ha]
    by_cases hb : (b.size : Int) > 1048576
    · rw [if_pos hb]
    · rw [if_neg hb]
      have hs : a.size ≤ 1099511627776 ∧ b.size ≤ 1099511627776 := ⟨by omega, by omega⟩
      unfold spec_IsClash.f impl_IsClash.f clashF
      rw [if_pos hs, Option.bind_some, Option.bind_some, if_neg (by simp)]
end Go.Proofs.Ytcogimnpffnanaa.Q
namespace Go.Proofs.Ytcogimnpffnanaa
theorem fnExactIsClash_holds : Rows.FnExactIsClashSaid := Q.FnExactIsClash_row Q.pure_FnExactIsClash
end Go.Proofs.Ytcogimnpffnanaa
