/- Marks in stores. -/
import Derived.Test.YtnekmofpamnceaaHByteE
import Derived.Test.YtnekmofpamnceaaHLogM
import Derived.Test.YtnekmofpamnceaaQf55
namespace Go.Proofs.Ytnekmofpamnceaa.Q
open Go.RowKit Go.Proofs.Ytnekmofpamnceaa.B Go.Proofs.YtnekmofpamnceaaW.PrintWords
set_option linter.unusedVariables false

theorem markStore_ev (l : List ByteArray) (n : Int) (s : ByteArray) (b : List Int) (u : Int) (a : Int) (h0 : 0 ≤ a) (h1 : a + l.length + b.length ≤ 4611686018427387904) :
    ∃ M, Ev (fun k => laws_markStore.f k l n s b u a) (a + (l.length : Int) + (b.length : Int), M, markB (a + (l.length : Int)) b.length) ∧ M.length = l.length ∧ Marked M a := by
  obtain ⟨M, hM, hl, hm⟩ := markLog_ev l n s a h0 (by omega)
  refine ⟨M, ?_, hl, hm⟩
  unfold laws_markStore.f
  exact Ev.bind hM (Ev.bind (markByteS_ev b (a + (l.length : Int)) (by omega) (by omega)) (Ev.now _))
end Go.Proofs.Ytnekmofpamnceaa.Q
