-- Shortened by a program of this session (wip/tools/shake.py) out of a text that the print of the kit wrote.
import Derived.Test.YtoipfpjcpngpfaaWInv
import Derived.Test.YtoipfpjcpngpfaaWFootNe
namespace Go.Proofs.YtoipfpjcpngpfaaW.PrintWords
open Go.RowKit
end Go.Proofs.YtoipfpjcpngpfaaW.PrintWords
namespace Go.Proofs.YtoipfpjcpngpfaaW.PrintLast
section
variable {ops : Array Oper} {a : Act} {o og : Oper} {g : Nat} {t : Tmp} {u : Bool}
end
end Go.Proofs.YtoipfpjcpngpfaaW.PrintLast
