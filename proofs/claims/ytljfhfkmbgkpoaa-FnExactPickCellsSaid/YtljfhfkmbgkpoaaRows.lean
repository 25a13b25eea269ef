/-
  No cell of these rows narrows 'for every input' (looked for: loops, veiled, ifaces, maps, wideKeys, modest, calm, conditions, laid).
  DERIVED. THE GIVEN ROWS OF THIS SEAT. 12 by the template 'for every input the law returns true; each argument reads behind the call as it read before'; 0 by the template 'total and deterministic' (their statements: YtljfhfkmbgkpoaaTotals.lean).
  GIVEN WITH THE SEED: the statements are not yours to turn. If you find one false, say at which input.
  Laid BY PROGRAM, IN A SANDBOX (cutbox-rows.mjs): the forced cells as the released guide's own fill.sh prints them over the translation 9cd534130caee907… (all of the seat's roots in one cut). By AI agents, Wed Nov 11 2026. No macro, syntax, notation, axiom, sorry.
-/
import Derived.Test.YtljfhfkmbgkpoaaChecked
import GoSem.Claim
import GoSem.ClaimJoined
import GoSem.ClaimMapViews
import Derived.JoinedTies
import Derived.KernelRfl
namespace Go.Proofs.Ytljfhfkmbgkpoaa
/- THE CELL 'sum', in the pinned program and in every row, IS THE sha256 OF THE DUMP (.gsa) THAT YtljfhfkmbgkpoaaProg.lean LOADS. Nothing in Lean hashes anything: it is a label: what it is worth is what the hold of that sum in a sandbox is worth. -/
noncomputable def Try.pinned : Pinned := { name := "ytljfhfkmbgkpoaa", sum := "9cd534130caee9070ea94b0bc8693a5ba5ccaa52898492e6f714ab20aecaaa6a", checked := Try.checked }
namespace Rows
def none {H : Type} : Left H := { results := [], args := [] }

/-- 'laws.FnExactConstants': WHATEVER THE INPUT: true; the input reads as it did. -/
def fnExactConstantsSpec : ChangeSpec := { name := "fnExactConstants", fn := fun _ => fun
  | [] => { results := [.lit (.bool true)], args := [] }
  | _ => none }
def fnExactConstantsRow : OpenClaim := { program := "ytljfhfkmbgkpoaa", sum := "9cd534130caee9070ea94b0bc8693a5ba5ccaa52898492e6f714ab20aecaaa6a", func := "loop.example/g00160/laws.FnExactConstants", spec := "fnExactConstants", apart := false }
def FnExactConstantsSaid : Prop := fnExactConstantsRow.holds Try.pinned (OpenSpec.ofChange fnExactConstantsSpec)

/-- ITS FALSE NEIGHBOUR: 'it returns false'. Refute it at one input. -/
def fnExactConstantsWrong : ChangeSpec := { name := "fnExactConstants", fn := fun _ => fun
  | [] => { results := [.lit (.bool false)], args := [] }
  | _ => none }
def FnExactConstantsWrongFalsely : Prop := fnExactConstantsRow.holds Try.pinned (OpenSpec.ofChange fnExactConstantsWrong)

/-- 'laws.FnExactIsLinear': WHATEVER THE INPUT: true; the input reads as it did. -/
def fnExactIsLinearSpec : ChangeSpec := { name := "fnExactIsLinear", fn := fun _ => fun
  | [d] => { results := [.lit (.bool true)], args := [d] }
  | _ => none }
def fnExactIsLinearRow : OpenClaim := { program := "ytljfhfkmbgkpoaa", sum := "9cd534130caee9070ea94b0bc8693a5ba5ccaa52898492e6f714ab20aecaaa6a", func := "loop.example/g00160/laws.FnExactIsLinear", spec := "fnExactIsLinear", apart := false }
def FnExactIsLinearSaid : Prop := fnExactIsLinearRow.holds Try.pinned (OpenSpec.ofChange fnExactIsLinearSpec)

/-- ITS FALSE NEIGHBOUR: 'it returns false'. Refute it at one input. -/
def fnExactIsLinearWrong : ChangeSpec := { name := "fnExactIsLinear", fn := fun _ => fun
  | [d] => { results := [.lit (.bool false)], args := [d] }
  | _ => none }
def FnExactIsLinearWrongFalsely : Prop := fnExactIsLinearRow.holds Try.pinned (OpenSpec.ofChange fnExactIsLinearWrong)

/-- 'laws.FnExactHashRow': WHATEVER THE INPUT: true; the input reads as it did. -/
def fnExactHashRowSpec : ChangeSpec := { name := "fnExactHashRow", fn := fun _ => fun
  | [d] => { results := [.lit (.bool true)], args := [d] }
  | _ => none }
def fnExactHashRowRow : OpenClaim := { program := "ytljfhfkmbgkpoaa", sum := "9cd534130caee9070ea94b0bc8693a5ba5ccaa52898492e6f714ab20aecaaa6a", func := "loop.example/g00160/laws.FnExactHashRow", spec := "fnExactHashRow", apart := false }
def FnExactHashRowSaid : Prop := fnExactHashRowRow.holds Try.pinned (OpenSpec.ofChange fnExactHashRowSpec)

/-- ITS FALSE NEIGHBOUR: 'it returns false'. Refute it at one input. -/
def fnExactHashRowWrong : ChangeSpec := { name := "fnExactHashRow", fn := fun _ => fun
  | [d] => { results := [.lit (.bool false)], args := [d] }
  | _ => none }
def FnExactHashRowWrongFalsely : Prop := fnExactHashRowRow.holds Try.pinned (OpenSpec.ofChange fnExactHashRowWrong)

/-- 'laws.FnExactAddWeight': WHATEVER THE INPUT: true; the input reads as it did. -/
def fnExactAddWeightSpec : ChangeSpec := { name := "fnExactAddWeight", fn := fun _ => fun
  | [d1, d2] => { results := [.lit (.bool true)], args := [d1, d2] }
  | _ => none }
def fnExactAddWeightRow : OpenClaim := { program := "ytljfhfkmbgkpoaa", sum := "9cd534130caee9070ea94b0bc8693a5ba5ccaa52898492e6f714ab20aecaaa6a", func := "loop.example/g00160/laws.FnExactAddWeight", spec := "fnExactAddWeight", apart := false }
def FnExactAddWeightSaid : Prop := fnExactAddWeightRow.holds Try.pinned (OpenSpec.ofChange fnExactAddWeightSpec)

/-- ITS FALSE NEIGHBOUR: 'it returns false'. Refute it at one input. -/
def fnExactAddWeightWrong : ChangeSpec := { name := "fnExactAddWeight", fn := fun _ => fun
  | [d1, d2] => { results := [.lit (.bool false)], args := [d1, d2] }
  | _ => none }
def FnExactAddWeightWrongFalsely : Prop := fnExactAddWeightRow.holds Try.pinned (OpenSpec.ofChange fnExactAddWeightWrong)

/-- 'laws.FnExactRowFault': WHATEVER THE INPUT: true; the input reads as it did. -/
def fnExactRowFaultSpec : ChangeSpec := { name := "fnExactRowFault", fn := fun _ => fun
  | [d] => { results := [.lit (.bool true)], args := [d] }
  | _ => none }
def fnExactRowFaultRow : OpenClaim := { program := "ytljfhfkmbgkpoaa", sum := "9cd534130caee9070ea94b0bc8693a5ba5ccaa52898492e6f714ab20aecaaa6a", func := "loop.example/g00160/laws.FnExactRowFault", spec := "fnExactRowFault", apart := false }
def FnExactRowFaultSaid : Prop := fnExactRowFaultRow.holds Try.pinned (OpenSpec.ofChange fnExactRowFaultSpec)

/-- ITS FALSE NEIGHBOUR: 'it returns false'. Refute it at one input. -/
def fnExactRowFaultWrong : ChangeSpec := { name := "fnExactRowFault", fn := fun _ => fun
  | [d] => { results := [.lit (.bool false)], args := [d] }
  | _ => none }
def FnExactRowFaultWrongFalsely : Prop := fnExactRowFaultRow.holds Try.pinned (OpenSpec.ofChange fnExactRowFaultWrong)

/-- 'laws.FnExactMulWeight': WHATEVER THE INPUT: true; the input reads as it did. -/
def fnExactMulWeightSpec : ChangeSpec := { name := "fnExactMulWeight", fn := fun _ => fun
  | [d1, d2] => { results := [.lit (.bool true)], args := [d1, d2] }
  | _ => none }
def fnExactMulWeightRow : OpenClaim := { program := "ytljfhfkmbgkpoaa", sum := "9cd534130caee9070ea94b0bc8693a5ba5ccaa52898492e6f714ab20aecaaa6a", func := "loop.example/g00160/laws.FnExactMulWeight", spec := "fnExactMulWeight", apart := false }
def FnExactMulWeightSaid : Prop := fnExactMulWeightRow.holds Try.pinned (OpenSpec.ofChange fnExactMulWeightSpec)

/-- ITS FALSE NEIGHBOUR: 'it returns false'. Refute it at one input. -/
def fnExactMulWeightWrong : ChangeSpec := { name := "fnExactMulWeight", fn := fun _ => fun
  | [d1, d2] => { results := [.lit (.bool false)], args := [d1, d2] }
  | _ => none }
def FnExactMulWeightWrongFalsely : Prop := fnExactMulWeightRow.holds Try.pinned (OpenSpec.ofChange fnExactMulWeightWrong)

/-- 'laws.FnExactCompareRows': WHATEVER THE INPUT: true; the input reads as it did. -/
def fnExactCompareRowsSpec : ChangeSpec := { name := "fnExactCompareRows", fn := fun _ => fun
  | [d1, d2] => { results := [.lit (.bool true)], args := [d1, d2] }
  | _ => none }
def fnExactCompareRowsRow : OpenClaim := { program := "ytljfhfkmbgkpoaa", sum := "9cd534130caee9070ea94b0bc8693a5ba5ccaa52898492e6f714ab20aecaaa6a", func := "loop.example/g00160/laws.FnExactCompareRows", spec := "fnExactCompareRows", apart := false }
def FnExactCompareRowsSaid : Prop := fnExactCompareRowsRow.holds Try.pinned (OpenSpec.ofChange fnExactCompareRowsSpec)

/-- ITS FALSE NEIGHBOUR: 'it returns false'. Refute it at one input. -/
def fnExactCompareRowsWrong : ChangeSpec := { name := "fnExactCompareRows", fn := fun _ => fun
  | [d1, d2] => { results := [.lit (.bool false)], args := [d1, d2] }
  | _ => none }
def FnExactCompareRowsWrongFalsely : Prop := fnExactCompareRowsRow.holds Try.pinned (OpenSpec.ofChange fnExactCompareRowsWrong)

/-- 'laws.FnWeights': WHATEVER THE INPUT: true; the input reads as it did. -/
def fnWeightsSpec : ChangeSpec := { name := "fnWeights", fn := fun _ => fun
  | [d] => { results := [.lit (.bool true)], args := [d] }
  | _ => none }
def fnWeightsRow : OpenClaim := { program := "ytljfhfkmbgkpoaa", sum := "9cd534130caee9070ea94b0bc8693a5ba5ccaa52898492e6f714ab20aecaaa6a", func := "loop.example/g00160/laws.FnWeights", spec := "fnWeights", apart := false }
def FnWeightsSaid : Prop := fnWeightsRow.holds Try.pinned (OpenSpec.ofChange fnWeightsSpec)

/-- ITS FALSE NEIGHBOUR: 'it returns false'. Refute it at one input. -/
def fnWeightsWrong : ChangeSpec := { name := "fnWeights", fn := fun _ => fun
  | [d] => { results := [.lit (.bool false)], args := [d] }
  | _ => none }
def FnWeightsWrongFalsely : Prop := fnWeightsRow.holds Try.pinned (OpenSpec.ofChange fnWeightsWrong)

/-- 'laws.FnExactPickCells': WHATEVER THE INPUT: true; the input reads as it did. -/
def fnExactPickCellsSpec : ChangeSpec := { name := "fnExactPickCells", fn := fun _ => fun
  | [d1, d2] => { results := [.lit (.bool true)], args := [d1, d2] }
  | _ => none }
def fnExactPickCellsRow : OpenClaim := { program := "ytljfhfkmbgkpoaa", sum := "9cd534130caee9070ea94b0bc8693a5ba5ccaa52898492e6f714ab20aecaaa6a", func := "loop.example/g00160/laws.FnExactPickCells", spec := "fnExactPickCells", apart := false }
def FnExactPickCellsSaid : Prop := fnExactPickCellsRow.holds Try.pinned (OpenSpec.ofChange fnExactPickCellsSpec)

/-- ITS FALSE NEIGHBOUR: 'it returns false'. Refute it at one input. -/
def fnExactPickCellsWrong : ChangeSpec := { name := "fnExactPickCells", fn := fun _ => fun
  | [d1, d2] => { results := [.lit (.bool false)], args := [d1, d2] }
  | _ => none }
def FnExactPickCellsWrongFalsely : Prop := fnExactPickCellsRow.holds Try.pinned (OpenSpec.ofChange fnExactPickCellsWrong)

/-- 'laws.FnExactUnpackRows': WHATEVER THE INPUT: true; the input reads as it did. -/
def fnExactUnpackRowsSpec : ChangeSpec := { name := "fnExactUnpackRows", fn := fun _ => fun
  | [d] => { results := [.lit (.bool true)], args := [d] }
  | _ => none }
def fnExactUnpackRowsRow : OpenClaim := { program := "ytljfhfkmbgkpoaa", sum := "9cd534130caee9070ea94b0bc8693a5ba5ccaa52898492e6f714ab20aecaaa6a", func := "loop.example/g00160/laws.FnExactUnpackRows", spec := "fnExactUnpackRows", apart := false }
def FnExactUnpackRowsSaid : Prop := fnExactUnpackRowsRow.holds Try.pinned (OpenSpec.ofChange fnExactUnpackRowsSpec)

/-- ITS FALSE NEIGHBOUR: 'it returns false'. Refute it at one input. -/
def fnExactUnpackRowsWrong : ChangeSpec := { name := "fnExactUnpackRows", fn := fun _ => fun
  | [d] => { results := [.lit (.bool false)], args := [d] }
  | _ => none }
def FnExactUnpackRowsWrongFalsely : Prop := fnExactUnpackRowsRow.holds Try.pinned (OpenSpec.ofChange fnExactUnpackRowsWrong)

/-- 'laws.FnExactPackRows': WHATEVER THE INPUT: true; the input reads as it did. -/
def fnExactPackRowsSpec : ChangeSpec := { name := "fnExactPackRows", fn := fun _ => fun
  | [d] => { results := [.lit (.bool true)], args := [d] }
  | _ => none }
def fnExactPackRowsRow : OpenClaim := { program := "ytljfhfkmbgkpoaa", sum := "9cd534130caee9070ea94b0bc8693a5ba5ccaa52898492e6f714ab20aecaaa6a", func := "loop.example/g00160/laws.FnExactPackRows", spec := "fnExactPackRows", apart := false }
def FnExactPackRowsSaid : Prop := fnExactPackRowsRow.holds Try.pinned (OpenSpec.ofChange fnExactPackRowsSpec)

/-- ITS FALSE NEIGHBOUR: 'it returns false'. Refute it at one input. -/
def fnExactPackRowsWrong : ChangeSpec := { name := "fnExactPackRows", fn := fun _ => fun
  | [d] => { results := [.lit (.bool false)], args := [d] }
  | _ => none }
def FnExactPackRowsWrongFalsely : Prop := fnExactPackRowsRow.holds Try.pinned (OpenSpec.ofChange fnExactPackRowsWrong)

/-- 'laws.FnRows': WHATEVER THE INPUT: true; the input reads as it did. -/
def fnRowsSpec : ChangeSpec := { name := "fnRows", fn := fun _ => fun
  | [d] => { results := [.lit (.bool true)], args := [d] }
  | _ => none }
def fnRowsRow : OpenClaim := { program := "ytljfhfkmbgkpoaa", sum := "9cd534130caee9070ea94b0bc8693a5ba5ccaa52898492e6f714ab20aecaaa6a", func := "loop.example/g00160/laws.FnRows", spec := "fnRows", apart := false }
def FnRowsSaid : Prop := fnRowsRow.holds Try.pinned (OpenSpec.ofChange fnRowsSpec)

/-- ITS FALSE NEIGHBOUR: 'it returns false'. Refute it at one input. -/
def fnRowsWrong : ChangeSpec := { name := "fnRows", fn := fun _ => fun
  | [d] => { results := [.lit (.bool false)], args := [d] }
  | _ => none }
def FnRowsWrongFalsely : Prop := fnRowsRow.holds Try.pinned (OpenSpec.ofChange fnRowsWrong)

/- THE SECOND FORM. 'bulk': how many values and letters a reading holds, each counted each time it is reached (what is shared counts as often as it is met; a slice's spare places count too). A statement '..UptoSaid' is the law's where the arguments, and the package variables that the reading takes, are together of bulk at most 1048576: NARROWER than '..Said'. Prove '..Said' where nothing that the law and all that it calls make is longer than what came in: it says more and counts as full. Else prove '..UptoSaid'. A law counts once. -/
mutual
def uptoBulk {H : Type} : DataW H → Nat
  | .lit (.string bytes) => bytes.length + 1
  | .lit _ => 1
  | .nil => 1
  | .ptr d => uptoBulk d + 1
  | .slice elems spare => uptoBulkAll elems + uptoBulkAll spare + 1
  | .agg parts => uptoBulkAll parts + 1
  | .iface _ d => uptoBulk d + 1
  | .map entries => uptoBulkEntries entries + 1
  | .held _ => 1
def uptoBulkAll {H : Type} : List (DataW H) → Nat
  | [] => 0
  | d :: r => uptoBulk d + uptoBulkAll r
def uptoBulkEntries {H : Type} : List (Lit × DataW H) → Nat
  | [] => 0
  | x :: r => uptoBulkEntry x + uptoBulkEntries r
def uptoBulkEntry {H : Type} : Lit × DataW H → Nat
  | (.string bytes, d) => bytes.length + uptoBulk d + 1
  | (_, d) => uptoBulk d + 1
 end
def uptoSmall : (H : Type) → List (DataW H) → Bool := fun _ ds => decide (uptoBulkAll ds ≤ 1048576)
def OpenSpec.upto (s : _root_.Go.ChangeSpec) : _root_.Go.OpenSpec := { _root_.Go.OpenSpec.ofChange s with cond := some uptoSmall }

/-- 'laws.FnExactConstants', WHERE WHAT IT READS IS OF BULK AT MOST 1048576: true; the input reads as it did. -/
def fnExactConstantsUptoRow : OpenClaim := { program := "ytljfhfkmbgkpoaa", sum := "9cd534130caee9070ea94b0bc8693a5ba5ccaa52898492e6f714ab20aecaaa6a", func := "loop.example/g00160/laws.FnExactConstants", spec := "fnExactConstants", apart := false, narrowed := true }
def FnExactConstantsUptoSaid : Prop := fnExactConstantsUptoRow.holds Try.pinned (OpenSpec.upto fnExactConstantsSpec)

/-- 'laws.FnExactIsLinear', WHERE WHAT IT READS IS OF BULK AT MOST 1048576: true; the input reads as it did. -/
def fnExactIsLinearUptoRow : OpenClaim := { program := "ytljfhfkmbgkpoaa", sum := "9cd534130caee9070ea94b0bc8693a5ba5ccaa52898492e6f714ab20aecaaa6a", func := "loop.example/g00160/laws.FnExactIsLinear", spec := "fnExactIsLinear", apart := false, narrowed := true }
def FnExactIsLinearUptoSaid : Prop := fnExactIsLinearUptoRow.holds Try.pinned (OpenSpec.upto fnExactIsLinearSpec)

/-- 'laws.FnExactHashRow', WHERE WHAT IT READS IS OF BULK AT MOST 1048576: true; the input reads as it did. -/
def fnExactHashRowUptoRow : OpenClaim := { program := "ytljfhfkmbgkpoaa", sum := "9cd534130caee9070ea94b0bc8693a5ba5ccaa52898492e6f714ab20aecaaa6a", func := "loop.example/g00160/laws.FnExactHashRow", spec := "fnExactHashRow", apart := false, narrowed := true }
def FnExactHashRowUptoSaid : Prop := fnExactHashRowUptoRow.holds Try.pinned (OpenSpec.upto fnExactHashRowSpec)

/-- 'laws.FnExactAddWeight', WHERE WHAT IT READS IS OF BULK AT MOST 1048576: true; the input reads as it did. -/
def fnExactAddWeightUptoRow : OpenClaim := { program := "ytljfhfkmbgkpoaa", sum := "9cd534130caee9070ea94b0bc8693a5ba5ccaa52898492e6f714ab20aecaaa6a", func := "loop.example/g00160/laws.FnExactAddWeight", spec := "fnExactAddWeight", apart := false, narrowed := true }
def FnExactAddWeightUptoSaid : Prop := fnExactAddWeightUptoRow.holds Try.pinned (OpenSpec.upto fnExactAddWeightSpec)

/-- 'laws.FnExactRowFault', WHERE WHAT IT READS IS OF BULK AT MOST 1048576: true; the input reads as it did. -/
def fnExactRowFaultUptoRow : OpenClaim := { program := "ytljfhfkmbgkpoaa", sum := "9cd534130caee9070ea94b0bc8693a5ba5ccaa52898492e6f714ab20aecaaa6a", func := "loop.example/g00160/laws.FnExactRowFault", spec := "fnExactRowFault", apart := false, narrowed := true }
def FnExactRowFaultUptoSaid : Prop := fnExactRowFaultUptoRow.holds Try.pinned (OpenSpec.upto fnExactRowFaultSpec)

/-- 'laws.FnExactMulWeight', WHERE WHAT IT READS IS OF BULK AT MOST 1048576: true; the input reads as it did. -/
def fnExactMulWeightUptoRow : OpenClaim := { program := "ytljfhfkmbgkpoaa", sum := "9cd534130caee9070ea94b0bc8693a5ba5ccaa52898492e6f714ab20aecaaa6a", func := "loop.example/g00160/laws.FnExactMulWeight", spec := "fnExactMulWeight", apart := false, narrowed := true }
def FnExactMulWeightUptoSaid : Prop := fnExactMulWeightUptoRow.holds Try.pinned (OpenSpec.upto fnExactMulWeightSpec)

/-- 'laws.FnExactCompareRows', WHERE WHAT IT READS IS OF BULK AT MOST 1048576: true; the input reads as it did. -/
def fnExactCompareRowsUptoRow : OpenClaim := { program := "ytljfhfkmbgkpoaa", sum := "9cd534130caee9070ea94b0bc8693a5ba5ccaa52898492e6f714ab20aecaaa6a", func := "loop.example/g00160/laws.FnExactCompareRows", spec := "fnExactCompareRows", apart := false, narrowed := true }
def FnExactCompareRowsUptoSaid : Prop := fnExactCompareRowsUptoRow.holds Try.pinned (OpenSpec.upto fnExactCompareRowsSpec)

/-- 'laws.FnWeights', WHERE WHAT IT READS IS OF BULK AT MOST 1048576: true; the input reads as it did. -/
def fnWeightsUptoRow : OpenClaim := { program := "ytljfhfkmbgkpoaa", sum := "9cd534130caee9070ea94b0bc8693a5ba5ccaa52898492e6f714ab20aecaaa6a", func := "loop.example/g00160/laws.FnWeights", spec := "fnWeights", apart := false, narrowed := true }
def FnWeightsUptoSaid : Prop := fnWeightsUptoRow.holds Try.pinned (OpenSpec.upto fnWeightsSpec)

/-- 'laws.FnExactPickCells', WHERE WHAT IT READS IS OF BULK AT MOST 1048576: true; the input reads as it did. -/
def fnExactPickCellsUptoRow : OpenClaim := { program := "ytljfhfkmbgkpoaa", sum := "9cd534130caee9070ea94b0bc8693a5ba5ccaa52898492e6f714ab20aecaaa6a", func := "loop.example/g00160/laws.FnExactPickCells", spec := "fnExactPickCells", apart := false, narrowed := true }
def FnExactPickCellsUptoSaid : Prop := fnExactPickCellsUptoRow.holds Try.pinned (OpenSpec.upto fnExactPickCellsSpec)

/-- 'laws.FnExactUnpackRows', WHERE WHAT IT READS IS OF BULK AT MOST 1048576: true; the input reads as it did. -/
def fnExactUnpackRowsUptoRow : OpenClaim := { program := "ytljfhfkmbgkpoaa", sum := "9cd534130caee9070ea94b0bc8693a5ba5ccaa52898492e6f714ab20aecaaa6a", func := "loop.example/g00160/laws.FnExactUnpackRows", spec := "fnExactUnpackRows", apart := false, narrowed := true }
def FnExactUnpackRowsUptoSaid : Prop := fnExactUnpackRowsUptoRow.holds Try.pinned (OpenSpec.upto fnExactUnpackRowsSpec)

/-- 'laws.FnExactPackRows', WHERE WHAT IT READS IS OF BULK AT MOST 1048576: true; the input reads as it did. -/
def fnExactPackRowsUptoRow : OpenClaim := { program := "ytljfhfkmbgkpoaa", sum := "9cd534130caee9070ea94b0bc8693a5ba5ccaa52898492e6f714ab20aecaaa6a", func := "loop.example/g00160/laws.FnExactPackRows", spec := "fnExactPackRows", apart := false, narrowed := true }
def FnExactPackRowsUptoSaid : Prop := fnExactPackRowsUptoRow.holds Try.pinned (OpenSpec.upto fnExactPackRowsSpec)

/-- 'laws.FnRows', WHERE WHAT IT READS IS OF BULK AT MOST 1048576: true; the input reads as it did. -/
def fnRowsUptoRow : OpenClaim := { program := "ytljfhfkmbgkpoaa", sum := "9cd534130caee9070ea94b0bc8693a5ba5ccaa52898492e6f714ab20aecaaa6a", func := "loop.example/g00160/laws.FnRows", spec := "fnRows", apart := false, narrowed := true }
def FnRowsUptoSaid : Prop := fnRowsUptoRow.holds Try.pinned (OpenSpec.upto fnRowsSpec)

end Rows
end Go.Proofs.Ytljfhfkmbgkpoaa
