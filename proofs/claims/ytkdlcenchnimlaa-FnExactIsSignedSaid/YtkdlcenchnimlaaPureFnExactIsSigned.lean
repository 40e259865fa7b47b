/- The program's IsSigned and the reference's IsSigned return the same for every list of heads and every head; no condition. -/
import Derived.Test.YtkdlcenchnimlaaHSigned
import Derived.Test.YtkdlcenchnimlaaLawFnExactIsSigned
namespace Go.Proofs.Ytkdlcenchnimlaa.Q
open Go.RowKit Go.Proofs.Ytkdlcenchnimlaa.B Go.Proofs.YtkdlcenchnimlaaW.PrintWords

theorem pure_FnExactIsSigned : laws_FnExactIsSigned.Pure := by
  intro l x gl gx
  refine Ev.rounds (g := fun k => laws_FnExactIsSigned.f k l x.f0 x.f1) ?_
  obtain ⟨r, hr, hc⟩ := szHeadS_ev l 1048576 (by omega) (by omega) gl.1 (fun y hy => (gl.2 y hy).2)
  unfold laws_FnExactIsSigned.f
  refine Ev.bind hr ?_
  rcases hc with hc | ⟨hc, hc1, _⟩
  · exact Ev.pos hc (Ev.now _)
  · refine Ev.neg (by omega) ?_
    obtain ⟨r2, hr2, hc2⟩ := szHead_eq x.f0 x.f1 r hc (by omega) gx.2
    simp only [hr2, Option.bind_some]
    by_cases h : r2 < 0
    · exact Ev.pos h (Ev.now _)
    · refine Ev.neg h ?_
      have hT := toHeadS_ev l (by omega)
      simp only [toHead_eq, Option.bind_some]
      refine Ev.bind hT (Ev.bind (spec_IsSigned_ev _ _ _ (by simp; omega)) (Ev.bind hT (Ev.bind (impl_IsSigned_ev _ _ _ (by simp; omega)) ?_)))
      refine Ev.neg (by simp) (Ev.bind hT (Ev.bind (eqHeadS_ev _ (by simp; omega)) ?_))
      exact Ev.pos rfl (Ev.now _)
end Go.Proofs.Ytkdlcenchnimlaa.Q
namespace Go.Proofs.Ytkdlcenchnimlaa
theorem fnExactIsSigned_holds : Rows.FnExactIsSignedSaid := Q.FnExactIsSigned_row Q.pure_FnExactIsSigned
end Go.Proofs.Ytkdlcenchnimlaa
