-- Written by fprint, a program of this session, out of Lean's own print of the translation. Lean checks it.
import Derived.Test.YtljfhfkmbgkpoaaProg
import Derived.Below
import Derived.Deep.Draws
import Derived.Deep.AppendLies
import Derived.Maps.AppendAt
import Derived.OwnWalk
import Derived.Laws.BytesArg
import Derived.Laws.MakeOwn
import Derived.Laws.OwnMore
import Derived.Deep.OwnRows
import Derived.Tactics
import Derived.Lib.ConvBytes
import Derived.Laws.Slices
import Derived.WalkKit
import Derived.KernelRfl
import Derived.RowKit3
import Derived.Deep.LoopGhost
import Derived.Deep.QuietTactic
import Derived.BigQuiet
import Derived.WideLaws
import Derived.Deep.DeepCutAuto
import Derived.Deep.CutBlock
import Derived.Deep.RegionHeld3
import Derived.Laws.Rows
import Derived.Lib.AppendStr
import Derived.ArgAppend
import Derived.Laws.IdiomCopy
import Derived.OrdersHeld
import Derived.Laws.BitsLemmas
import Derived.RowKit
import Derived.Test.YtljfhfkmbgkpoaaWWords
import Derived.Test.YtljfhfkmbgkpoaaWLast
import Derived.Test.YtljfhfkmbgkpoaaWTab
import Derived.Test.YtljfhfkmbgkpoaaWFour
import Derived.Test.YtljfhfkmbgkpoaaWQPut
import Derived.Test.YtljfhfkmbgkpoaaWApart
import Derived.Test.YtljfhfkmbgkpoaaWArr
import Derived.Test.YtljfhfkmbgkpoaaWZeros
import Derived.Test.YtljfhfkmbgkpoaaWFoot
import Derived.Test.YtljfhfkmbgkpoaaWKept
import Derived.Test.YtljfhfkmbgkpoaaWShare
import Derived.Test.YtljfhfkmbgkpoaaWN
import Derived.Test.YtljfhfkmbgkpoaaWFootNe
import Derived.Test.YtljfhfkmbgkpoaaWAt
import Derived.Test.YtljfhfkmbgkpoaaWEqStruct
import Derived.Test.YtljfhfkmbgkpoaaWRepsOne
import Derived.Test.YtljfhfkmbgkpoaaWInv
import Derived.Test.YtljfhfkmbgkpoaaWInvWords
import Derived.Test.YtljfhfkmbgkpoaaWGuard
import Derived.Test.YtljfhfkmbgkpoaaWNEv
import Derived.Test.YtljfhfkmbgkpoaaWMore
namespace Go.Proofs.Ytljfhfkmbgkpoaa.PFnWeights
open Go.RowKit Go.Proofs.YtljfhfkmbgkpoaaW.PrintWords Go.Proofs.YtljfhfkmbgkpoaaW.PrintLast Go.Proofs.YtljfhfkmbgkpoaaW.PrintMore
attribute [local go_sem] max2_int min2_int max_two min_two max_three min_three max_four min_four   -- for this text's walks alone
set_option linter.unusedVariables false
set_option linter.unusedSimpArgs false



def errW : Option Int → Value
  | none => .nilIface
  | some c => .iface 0 (.int .i64 c)
theorem errW_none : errW none = .nilIface := rfl
theorem errW_some (c : Int) : errW (some c) = .iface 0 (.int .i64 c) := rfl

theorem info2 : (Try.prog.info? 2).map (fun i => (i.zero, i.size, i.bytes)) = some (some (.int .i64 0), 1, 8) := by kernel_rfl
-- the values' own types

end Go.Proofs.Ytljfhfkmbgkpoaa.PFnWeights
