/- A new log: the program's and the reference's are one. Plain. -/
import Derived.Test.YtnekmofpamnceaaJB3
import Derived.Test.YtnekmofpamnceaaQf36
import Derived.Test.YtnekmofpamnceaaQf35
namespace Go.Proofs.Ytnekmofpamnceaa.Q
open Go.RowKit Go.Proofs.Ytnekmofpamnceaa.B Go.Proofs.YtnekmofpamnceaaW.PrintWords Go.Proofs.YtnekmofpamnceaaW.PrintMore
set_option linter.unusedVariables false

theorem spec_LogNew_ev : Ev (fun k => spec_LogNew.f k) (([] : List ByteArray), (headOf []).1, (headOf []).2) := by
  unfold spec_LogNew.f
  exact Ev.bind (spec_HeadOf_ev [] (by simp)) (Ev.now _)
theorem impl_LogNew_ev : Ev (fun k => impl_LogNew.f k) (([] : List ByteArray), (headOf []).1, (headOf []).2) := by
  unfold impl_LogNew.f
  exact Ev.bind (impl_HeadOf_ev [] (by simp)) (Ev.now _)
end Go.Proofs.Ytnekmofpamnceaa.Q
