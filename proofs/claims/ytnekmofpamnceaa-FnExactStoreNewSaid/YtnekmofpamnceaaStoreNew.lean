/- A new store: the program's and the reference's are one. Plain. -/
import Derived.Test.YtnekmofpamnceaaLogNew
import Derived.Test.YtnekmofpamnceaaQf53
import Derived.Test.YtnekmofpamnceaaQf52
namespace Go.Proofs.Ytnekmofpamnceaa.Q
open Go.RowKit Go.Proofs.Ytnekmofpamnceaa.B Go.Proofs.YtnekmofpamnceaaW.PrintWords Go.Proofs.YtnekmofpamnceaaW.PrintMore
set_option linter.unusedVariables false

theorem spec_StoreNew_ev : Ev (fun k => spec_StoreNew.f k) (([] : List ByteArray), (headOf []).1, (headOf []).2, ([] : List Int), (0 : Int)) := by
  unfold spec_StoreNew.f
  exact Ev.bind spec_LogNew_ev (Ev.now _)
theorem impl_StoreNew_ev : Ev (fun k => impl_StoreNew.f k) (([] : List ByteArray), (headOf []).1, (headOf []).2, ([] : List Int), (0 : Int)) := by
  unfold impl_StoreNew.f
  exact Ev.bind impl_LogNew_ev (Ev.now _)
end Go.Proofs.Ytnekmofpamnceaa.Q
