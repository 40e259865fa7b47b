/- Marks in stores that are found again. -/
import Derived.Test.YtnekmofpamnceaaHLogH
import Derived.Test.YtnekmofpamnceaaHByteE
import Derived.Test.YtnekmofpamnceaaQf56
namespace Go.Proofs.Ytnekmofpamnceaa.Q
open Go.RowKit Go.Proofs.Ytnekmofpamnceaa.B Go.Proofs.YtnekmofpamnceaaW.PrintWords
set_option linter.unusedVariables false

theorem heldStore_ev (M : List ByteArray) (n : Int) (s : ByteArray) (b : Nat) (u : Int) (a : Int) (h0 : 0 ≤ a) (h1 : a + M.length + b ≤ 4611686018427387904) (hm : Marked M a) : Ev (fun k => laws_heldStore.f k M n s (markB (a + (M.length : Int)) b) u a) (a + (M.length : Int) + (b : Int)) := by
  unfold laws_heldStore.f
  exact Ev.bind (heldLog_ev M n s a h0 (by omega) hm) (Ev.neg (by omega) (Ev.bind (heldByteS_ev b (a + (M.length : Int)) (by omega) (by omega)) (Ev.neg (by omega) (Ev.now _))))
end Go.Proofs.Ytnekmofpamnceaa.Q
