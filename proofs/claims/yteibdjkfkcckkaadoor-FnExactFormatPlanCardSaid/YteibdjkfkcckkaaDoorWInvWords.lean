-- Written by fprint: words of the print, cut down by trimwords.py. Lean checks them.
import Derived.Test.YteibdjkfkcckkaaDoorWInv
import Derived.Test.YteibdjkfkcckkaaDoorWFootNe
namespace Go.Proofs.YteibdjkfkcckkaaDoorW.PrintWords
open Go.RowKit
end Go.Proofs.YteibdjkfkcckkaaDoorW.PrintWords
namespace Go.Proofs.YteibdjkfkcckkaaDoorW.PrintLast
section
variable {ops : Array Oper} {a : Act} {o og : Oper} {g : Nat} {t : Tmp} {u : Bool}
end
end Go.Proofs.YteibdjkfkcckkaaDoorW.PrintLast
