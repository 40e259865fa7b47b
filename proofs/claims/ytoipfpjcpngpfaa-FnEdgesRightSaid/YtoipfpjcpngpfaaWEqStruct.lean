-- Shortened by a program of this session (wip/tools/shake.py) out of a text that the print of the kit wrote.
import Derived.Test.YtoipfpjcpngpfaaWWords
import Derived.Laws.StructEq
/-! ### 53. '==' of structs as_ one Bool -/
namespace Go.Proofs.YtoipfpjcpngpfaaW.PrintWords
open Go.RowKit
section
variable {P : Program} {d : Nat} {xs ys : Array Value} {f : Field} {fs : List Field} {a b : Value} {r s : Bool} {w : World}
end
end Go.Proofs.YtoipfpjcpngpfaaW.PrintWords
