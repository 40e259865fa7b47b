/- Marks in logs. -/
import Derived.Test.YtnekmofpamnceaaHLog
import Derived.Test.YtnekmofpamnceaaJB3
import Derived.Test.YtnekmofpamnceaaQf38
namespace Go.Proofs.Ytnekmofpamnceaa.Q
open Go.RowKit Go.Proofs.Ytnekmofpamnceaa.B Go.Proofs.YtnekmofpamnceaaW.PrintWords
set_option linter.unusedVariables false

theorem markLog_ev (l : List ByteArray) (n : Int) (s : ByteArray) (a : Int) (h0 : 0 ≤ a) (h1 : a + l.length ≤ 4611686018427387904) : ∃ M, Ev (fun k => laws_markLog.f k l n s a) (a + (l.length : Int), M) ∧ M.length = l.length ∧ Marked M a := by
  obtain ⟨M, hM, hl, hm⟩ := markStringS_ev l a h0 h1
  refine ⟨M, ?_, hl, hm⟩
  unfold laws_markLog.f
  exact Ev.bind hM (Ev.now _)
end Go.Proofs.Ytnekmofpamnceaa.Q
