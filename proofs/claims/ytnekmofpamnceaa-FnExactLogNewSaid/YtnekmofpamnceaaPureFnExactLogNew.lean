/- The program's LogNew and the reference's return the same; no condition. -/
import Derived.Test.YtnekmofpamnceaaHLogH
import Derived.Test.YtnekmofpamnceaaHLogM
import Derived.Test.YtnekmofpamnceaaLogNew
import Derived.Test.YtnekmofpamnceaaLawFnExactLogNew
namespace Go.Proofs.Ytnekmofpamnceaa.Q
open Go.RowKit Go.Proofs.Ytnekmofpamnceaa.B Go.Proofs.YtnekmofpamnceaaW.PrintWords

theorem pure_FnExactLogNew : laws_FnExactLogNew.Pure := by
  refine Ev.rounds (g := fun k => laws_FnExactLogNew.f k) ?_
  unfold laws_FnExactLogNew.f
  have hE := eqLog_ev [] (headOf []).1 (headOf []).2 (by simp)
  obtain ⟨m, hm, hm1, hm2⟩ := markLog_ev [] (headOf []).1 (headOf []).2 1 (by omega) (by simp)
  have hh := heldLog_ev m (headOf []).1 (headOf []).2 1 (by omega) (by simp at hm1; simp [hm1]) hm2
  rw [hm1] at hh
  exact Ev.bind spec_LogNew_ev (Ev.bind impl_LogNew_ev (Ev.bind hE (Ev.pos rfl (Ev.bind hm (Ev.bind hh (Ev.neg (by simp) (Ev.pos rfl (Ev.bind impl_LogNew_ev (Ev.bind hE (Ev.pos rfl (Ev.bind hh (Ev.neg (by simp) (Ev.pos rfl (Ev.now _))))))))))))))
end Go.Proofs.Ytnekmofpamnceaa.Q
namespace Go.Proofs.Ytnekmofpamnceaa
theorem fnExactLogNew_holds : Rows.FnExactLogNewSaid := Q.FnExactLogNew_row Q.pure_FnExactLogNew
end Go.Proofs.Ytnekmofpamnceaa
