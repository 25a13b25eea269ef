-- Written by fprint: words of the print, cut down by trimwords.py. Lean checks them.
import Derived.Test.YthgmicingbjemaaWN
namespace Go.Proofs.YthgmicingbjemaaW.PrintWords
open Go.RowKit
namespace Kd
section
variable {α : Type} {d : Kd α} {W : World} {g n : Nat} {S ok : Nat → Prop} {A : Option Addr} {ad : Addr} {xs : List α}
end
end Kd
end Go.Proofs.YthgmicingbjemaaW.PrintWords
