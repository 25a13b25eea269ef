-- Written by fprint: words of the print, cut down by trimwords.py. Lean checks them.
import Derived.Test.YthgmicingbjemaaWWords
import Derived.Laws.StructEq
namespace Go.Proofs.YthgmicingbjemaaW.PrintWords
open Go.RowKit
section
variable {P : Program} {d : Nat} {xs ys : Array Value} {f : Field} {fs : List Field} {a b : Value} {r s : Bool} {w : World}
end
end Go.Proofs.YthgmicingbjemaaW.PrintWords
