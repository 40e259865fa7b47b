/- A store equals itself. -/
import Derived.Test.YtnekmofpamnceaaHLog
import Derived.Test.YtnekmofpamnceaaHByteE
import Derived.Test.YtnekmofpamnceaaQf54
namespace Go.Proofs.Ytnekmofpamnceaa.Q
open Go.RowKit Go.Proofs.Ytnekmofpamnceaa.B Go.Proofs.YtnekmofpamnceaaW.PrintWords
set_option linter.unusedVariables false

theorem eqStore_ev (l : List ByteArray) (n : Int) (s : ByteArray) (b : List Int) (u : Int) (hl : l.length ≤ 9223372036854775807) (hb : b.length ≤ 9223372036854775807) : Ev (fun k => laws_eqStore.f k l n s b u l n s b u) true := by
  unfold laws_eqStore.f
  exact Ev.bind (eqLog_ev l n s hl) (Ev.pos rfl (Ev.bind (eqByteS_ev b hb) (Ev.pos rfl (Ev.pos rfl (Ev.now _)))))
end Go.Proofs.Ytnekmofpamnceaa.Q
