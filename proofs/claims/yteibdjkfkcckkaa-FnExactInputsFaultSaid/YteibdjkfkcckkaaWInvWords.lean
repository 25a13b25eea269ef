-- Written by fprint: words of the print, cut down by trimwords.py. Lean checks them.
import Derived.Test.YteibdjkfkcckkaaWInv
import Derived.Test.YteibdjkfkcckkaaWFootNe
namespace Go.Proofs.YteibdjkfkcckkaaW.PrintWords
open Go.RowKit
end Go.Proofs.YteibdjkfkcckkaaW.PrintWords
namespace Go.Proofs.YteibdjkfkcckkaaW.PrintLast
section
variable {ops : Array Oper} {a : Act} {o og : Oper} {g : Nat} {t : Tmp} {u : Bool}
end
end Go.Proofs.YteibdjkfkcckkaaW.PrintLast
