-- Written by fprint: words of the print, cut down by trimwords.py. Lean checks them.
import Derived.Test.YthgmicingbjemaaWInv
import Derived.Test.YthgmicingbjemaaWFootNe
namespace Go.Proofs.YthgmicingbjemaaW.PrintWords
open Go.RowKit
end Go.Proofs.YthgmicingbjemaaW.PrintWords
namespace Go.Proofs.YthgmicingbjemaaW.PrintLast
section
variable {ops : Array Oper} {a : Act} {o og : Oper} {g : Nat} {t : Tmp} {u : Bool}
end
end Go.Proofs.YthgmicingbjemaaW.PrintLast
