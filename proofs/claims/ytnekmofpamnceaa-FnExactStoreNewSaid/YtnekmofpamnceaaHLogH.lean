/- Marks in logs that are found again. -/
import Derived.Test.YtnekmofpamnceaaJB3
import Derived.Test.YtnekmofpamnceaaQf39
namespace Go.Proofs.Ytnekmofpamnceaa.Q
open Go.RowKit Go.Proofs.Ytnekmofpamnceaa.B Go.Proofs.YtnekmofpamnceaaW.PrintWords
set_option linter.unusedVariables false

theorem heldLog_ev (M : List ByteArray) (n : Int) (s : ByteArray) (a : Int) (h0 : 0 ≤ a) (h1 : a + M.length ≤ 4611686018427387904) (hm : Marked M a) : Ev (fun k => laws_heldLog.f k M n s a) (a + (M.length : Int)) := by
  unfold laws_heldLog.f
  exact Ev.bind (heldStringS_ev M a h0 h1 hm) (Ev.neg (by omega) (Ev.now _))
end Go.Proofs.Ytnekmofpamnceaa.Q
