-- Written by fprint: words of the print, cut down by trimwords.py. Lean checks them.
import Derived.Test.YthgmicingbjemaaWTab
namespace Go.Proofs.YthgmicingbjemaaW.PrintLast
section
variable {P : Program} {ops : Array Oper} {Q : Exit → Act → World → Prop} {md : Region.Mode} {S : World → Prop} {ds : List Nat} {T : Bool × List (List Nat × List Nat)}
end
end Go.Proofs.YthgmicingbjemaaW.PrintLast
