-- Shortened by a program of this session (wip/tools/shake.py) out of a text that the print of the kit wrote.
import Derived.Test.YtcogimnpffnanaaWInv
import Derived.Test.YtcogimnpffnanaaWFootNe
namespace Go.Proofs.YtcogimnpffnanaaW.PrintWords
open Go.RowKit
end Go.Proofs.YtcogimnpffnanaaW.PrintWords
namespace Go.Proofs.YtcogimnpffnanaaW.PrintLast
section
variable {ops : Array Oper} {a : Act} {o og : Oper} {g : Nat} {t : Tmp} {u : Bool}
end
end Go.Proofs.YtcogimnpffnanaaW.PrintLast
