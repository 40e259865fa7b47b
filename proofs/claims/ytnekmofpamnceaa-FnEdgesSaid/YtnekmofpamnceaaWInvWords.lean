-- Shortened by a program of this session (wip/tools/shake.py) out of a text that the print of the kit wrote.
import Derived.Test.YtnekmofpamnceaaWInv
import Derived.Test.YtnekmofpamnceaaWFootNe
namespace Go.Proofs.YtnekmofpamnceaaW.PrintWords
open Go.RowKit
end Go.Proofs.YtnekmofpamnceaaW.PrintWords
namespace Go.Proofs.YtnekmofpamnceaaW.PrintLast
section
variable {ops : Array Oper} {a : Act} {o og : Oper} {g : Nat} {t : Tmp} {u : Bool}
end
end Go.Proofs.YtnekmofpamnceaaW.PrintLast
