/- The program's HeadOk and the reference's HeadOk return the same for every head; no condition. -/
import Derived.Test.YtkdlcenchnimlaaHHead
import Derived.Test.YtkdlcenchnimlaaLawFnExactHeadOk
namespace Go.Proofs.Ytkdlcenchnimlaa.Q
open Go.RowKit Go.Proofs.Ytkdlcenchnimlaa.B Go.Proofs.YtkdlcenchnimlaaW.PrintWords

theorem pure_FnExactHeadOk : laws_FnExactHeadOk.Pure := by
  intro x g
  obtain ⟨r, hr, hc⟩ := szHead_eq x.f0 x.f1 1048576 (by omega) (by omega) g.2
  unfold laws_FnExactHeadOk.f
  rw [hr]
  simp only [Option.bind_some]
  by_cases h : r < 0
  · rw [if_pos h]
  · rw [if_neg h]
    simp only [toHead_eq, Option.bind_some]
    unfold spec_HeadOk.f impl_HeadOk.f
    simp only [spec_in_eq, impl_in_eq, Option.bind_some]
    by_cases q : 0 ≤ x.f0 ∧ x.f0 ≤ 200
    · simp [decide_eq_true q]
    · simp [decide_eq_false q]
end Go.Proofs.Ytkdlcenchnimlaa.Q
namespace Go.Proofs.Ytkdlcenchnimlaa
theorem fnExactHeadOk_holds : Rows.FnExactHeadOkSaid := Q.FnExactHeadOk_row Q.pure_FnExactHeadOk
end Go.Proofs.Ytkdlcenchnimlaa
