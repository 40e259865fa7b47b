/- The program's BestHead and the reference's BestHead return the same for every list of heads; no condition. -/
import Derived.Test.YtkdlcenchnimlaaHBest
import Derived.Test.YtkdlcenchnimlaaLawFnExactBestHead
namespace Go.Proofs.Ytkdlcenchnimlaa.Q
open Go.RowKit Go.Proofs.Ytkdlcenchnimlaa.B Go.Proofs.YtkdlcenchnimlaaW.PrintWords

theorem pure_FnExactBestHead : laws_FnExactBestHead.Pure := by
  intro l gl
  refine Ev.rounds (g := fun k => laws_FnExactBestHead.f k l) ?_
  obtain ⟨r, hr, hc⟩ := szHeadS_ev l 1048576 (by omega) (by omega) gl.1 (fun y hy => (gl.2 y hy).2)
  unfold laws_FnExactBestHead.f
  refine Ev.bind hr ?_
  rcases hc with hc | ⟨hc, hc1, _⟩
  · exact Ev.pos hc (Ev.now _)
  · refine Ev.neg (by omega) ?_
    have hT := toHeadS_ev l (by omega)
    refine Ev.bind hT (Ev.bind (spec_BestHead_ev _ (by simp; omega)) (Ev.bind hT (Ev.bind (impl_BestHead_ev _ (by simp; omega)) ?_)))
    simp only [eqHead_eq, Option.bind_some, if_true]
    refine Ev.bind hT (Ev.bind (eqHeadS_ev _ (by simp; omega)) ?_)
    exact Ev.pos rfl (Ev.now _)
end Go.Proofs.Ytkdlcenchnimlaa.Q
namespace Go.Proofs.Ytkdlcenchnimlaa
theorem fnExactBestHead_holds : Rows.FnExactBestHeadSaid := Q.FnExactBestHead_row Q.pure_FnExactBestHead
end Go.Proofs.Ytkdlcenchnimlaa
