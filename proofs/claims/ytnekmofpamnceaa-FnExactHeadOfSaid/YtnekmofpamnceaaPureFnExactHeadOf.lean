/- The program's HeadOf and the reference's return the same for every list of texts; no condition. -/
import Derived.Test.YtnekmofpamnceaaJB3
import Derived.Test.YtnekmofpamnceaaLawFnExactHeadOf
namespace Go.Proofs.Ytnekmofpamnceaa.Q
open Go.RowKit Go.Proofs.Ytnekmofpamnceaa.B Go.Proofs.YtnekmofpamnceaaW.PrintWords

theorem pure_FnExactHeadOf : laws_FnExactHeadOf.Pure := by
  intro l gl
  refine Ev.rounds (g := fun k => laws_FnExactHeadOf.f k l) ?_
  unfold laws_FnExactHeadOf.f
  obtain ⟨r, hr, hc⟩ := szStringS_ev l 1048576 (by omega) (by omega) gl.1 gl.2
  refine Ev.bind hr ?_
  rcases hc with hc | ⟨hc, hc1⟩
  · exact Ev.pos hc (Ev.now _)
  · have ht := total_nonneg l
    have hT := toStringS_ev l (by omega)
    have hs := total_small (l := l) (by omega)
    refine Ev.neg (by omega) (Ev.bind hT (Ev.bind (spec_HeadOf_ev l hs) (Ev.bind hT (Ev.bind (impl_HeadOf_ev l hs) (Ev.bind (Ev.const (eqHead_eq _ _)) (Ev.pos rfl ?_))))))
    exact Ev.bind hT (Ev.bind (eqStringS_ev l (by omega)) (Ev.pos rfl (Ev.now _)))
end Go.Proofs.Ytnekmofpamnceaa.Q
namespace Go.Proofs.Ytnekmofpamnceaa
theorem fnExactHeadOf_holds : Rows.FnExactHeadOfSaid := Q.FnExactHeadOf_row Q.pure_FnExactHeadOf
end Go.Proofs.Ytnekmofpamnceaa
