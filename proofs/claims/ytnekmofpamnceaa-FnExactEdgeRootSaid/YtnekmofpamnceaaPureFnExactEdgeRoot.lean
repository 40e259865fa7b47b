/- The program's EdgeRoot and the reference's return the same for every edge; no condition. -/
import Derived.Test.YtnekmofpamnceaaHEdge
import Derived.Test.YtnekmofpamnceaaEdge
import Derived.Test.YtnekmofpamnceaaJB3
import Derived.Test.YtnekmofpamnceaaLawFnExactEdgeRoot
namespace Go.Proofs.Ytnekmofpamnceaa.Q
open Go.RowKit Go.Proofs.Ytnekmofpamnceaa.B Go.Proofs.YtnekmofpamnceaaW.PrintWords

theorem pure_FnExactEdgeRoot : laws_FnExactEdgeRoot.Pure := by
  intro x g
  refine Ev.rounds (g := fun k => laws_FnExactEdgeRoot.f k x.f0 x.f1) ?_
  obtain ⟨g3, g1, g2⟩ := g
  generalize x.f0 = n at *
  generalize x.f1 = l at *
  unfold laws_FnExactEdgeRoot.f
  obtain ⟨r, hr, hc⟩ := szEdge_ev n l 1048576 (by omega) (by omega) g1 g2
  refine Ev.bind hr ?_
  rcases hc with hc | ⟨hc, hc1⟩
  · exact Ev.pos hc (Ev.now _)
  · have ht := total_nonneg l
    have hT := toEdge_ev n l (by omega)
    have hs := total_small (l := l) (by omega)
    exact Ev.neg (by omega) (Ev.bind hT (Ev.bind (spec_EdgeRoot_ev n l (by omega) hs) (Ev.bind hT (Ev.bind (impl_EdgeRoot_ev n l (by omega) hs) (Ev.pos rfl (Ev.bind hT (Ev.bind (eqEdge_ev n l (by omega)) (Ev.pos rfl (Ev.now _)))))))))
end Go.Proofs.Ytnekmofpamnceaa.Q
namespace Go.Proofs.Ytnekmofpamnceaa
theorem fnExactEdgeRoot_holds : Rows.FnExactEdgeRootSaid := Q.FnExactEdgeRoot_row Q.pure_FnExactEdgeRoot
end Go.Proofs.Ytnekmofpamnceaa
