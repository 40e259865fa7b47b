/- The program's LogOk and the reference's return the same for every log; no condition. -/
import Derived.Test.YtnekmofpamnceaaJB3
import Derived.Test.YtnekmofpamnceaaLawFnExactLogOk
namespace Go.Proofs.Ytnekmofpamnceaa.Q
open Go.RowKit Go.Proofs.Ytnekmofpamnceaa.B Go.Proofs.YtnekmofpamnceaaW.PrintWords

theorem pure_FnExactLogOk : laws_FnExactLogOk.Pure := by
  intro x g
  refine Ev.rounds (g := fun k => laws_FnExactLogOk.f k x.f0 x.f1.f0 x.f1.f1) ?_
  obtain ⟨⟨g1, g2⟩, g3, g4⟩ := g
  generalize x.f0 = l at *
  generalize x.f1.f0 = n at *
  generalize x.f1.f1 = s at *
  unfold laws_FnExactLogOk.f
  obtain ⟨r, hr, hc⟩ := szLog_ev l n s 1048576 (by omega) (by omega) g1 g2 g4
  refine Ev.bind hr ?_
  rcases hc with hc | ⟨hc, hc1⟩
  · exact Ev.pos hc (Ev.now _)
  · have ht := total_nonneg l
    have hT := toLog_ev l n s (by omega)
    have hs := total_small (l := l) (by omega)
    refine Ev.neg (by omega) (Ev.bind hT (Ev.bind (spec_LogOk_ev l n s hs) (Ev.bind hT (Ev.bind (impl_LogOk_ev l n s hs) ?_))))
    refine Ev.neg (by simp) ?_
    exact Ev.bind hT (Ev.bind (eqLog_ev l n s (by omega)) (Ev.pos rfl (Ev.now _)))
end Go.Proofs.Ytnekmofpamnceaa.Q
namespace Go.Proofs.Ytnekmofpamnceaa
theorem fnExactLogOk_holds : Rows.FnExactLogOkSaid := Q.FnExactLogOk_row Q.pure_FnExactLogOk
end Go.Proofs.Ytnekmofpamnceaa
