-- Shortened by a program of this session (wip/tools/shake.py) out of a text that the print of the kit wrote.
import Derived.Test.YtkdlcenchnimlaaWInv
import Derived.Test.YtkdlcenchnimlaaWFootNe
namespace Go.Proofs.YtkdlcenchnimlaaW.PrintWords
open Go.RowKit
end Go.Proofs.YtkdlcenchnimlaaW.PrintWords
namespace Go.Proofs.YtkdlcenchnimlaaW.PrintLast
section
variable {ops : Array Oper} {a : Act} {o og : Oper} {g : Nat} {t : Tmp} {u : Bool}
end
end Go.Proofs.YtkdlcenchnimlaaW.PrintLast
