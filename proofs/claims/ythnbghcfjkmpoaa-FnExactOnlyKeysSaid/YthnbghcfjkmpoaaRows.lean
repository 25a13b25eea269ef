/-
  No cell of these rows narrows 'for every input' (looked for: loops, veiled, ifaces, maps, wideKeys, modest, calm, conditions, laid).
  DERIVED. THE GIVEN ROWS OF THIS SEAT. 11 by the template 'for every input the law returns true; each argument reads behind the call as it read before'; 0 by the template 'total and deterministic' (their statements: YthnbghcfjkmpoaaTotals.lean).
  GIVEN WITH THE SEED: the statements are not yours to turn. If you find one false, say at which input.
  Laid BY PROGRAM, IN A SANDBOX (cutbox-rows.mjs): the forced cells as the released guide's own fill.sh prints them over the translation 4966d83f6e7b0f24… (all of the seat's roots in one cut). By AI agents, Wed Nov 11 2026. No macro, syntax, notation, axiom, sorry.
-/
import Derived.Test.YthnbghcfjkmpoaaChecked
import GoSem.Claim
import GoSem.ClaimJoined
import GoSem.ClaimMapViews
import Derived.JoinedTies
import Derived.KernelRfl
namespace Go.Proofs.Ythnbghcfjkmpoaa
/- THE CELL 'sum', in the pinned program and in every row, IS THE sha256 OF THE DUMP (.gsa) THAT YthnbghcfjkmpoaaProg.lean LOADS. Nothing in Lean hashes anything: it is a label: what it is worth is what the hold of that sum in a sandbox is worth. -/
noncomputable def Try.pinned : Pinned := { name := "ythnbghcfjkmpoaa", sum := "4966d83f6e7b0f243c361b7ee0b09bbb67b1e5ff7d1fa3f48b4cf21027392d27", checked := Try.checked }
namespace Rows
def none {H : Type} : Left H := { results := [], args := [] }

/-- 'laws.FnExactSameSets': WHATEVER THE INPUT: true; the input reads as it did. -/
def fnExactSameSetsSpec : ChangeSpec := { name := "fnExactSameSets", fn := fun _ => fun
  | [d1, d2] => { results := [.lit (.bool true)], args := [d1, d2] }
  | _ => none }
def fnExactSameSetsRow : OpenClaim := { program := "ythnbghcfjkmpoaa", sum := "4966d83f6e7b0f243c361b7ee0b09bbb67b1e5ff7d1fa3f48b4cf21027392d27", func := "loop.example/g00160/laws.FnExactSameSets", spec := "fnExactSameSets", unfollowed := true, recurses := true, apart := false }
def FnExactSameSetsSaid : Prop := fnExactSameSetsRow.holds Try.pinned (OpenSpec.ofChange fnExactSameSetsSpec)

/-- ITS FALSE NEIGHBOUR: 'it returns false'. Refute it at one input. -/
def fnExactSameSetsWrong : ChangeSpec := { name := "fnExactSameSets", fn := fun _ => fun
  | [d1, d2] => { results := [.lit (.bool false)], args := [d1, d2] }
  | _ => none }
def FnExactSameSetsWrongFalsely : Prop := fnExactSameSetsRow.holds Try.pinned (OpenSpec.ofChange fnExactSameSetsWrong)

/-- 'laws.FnExactSetFault': WHATEVER THE INPUT: true; the input reads as it did. -/
def fnExactSetFaultSpec : ChangeSpec := { name := "fnExactSetFault", fn := fun _ => fun
  | [d] => { results := [.lit (.bool true)], args := [d] }
  | _ => none }
def fnExactSetFaultRow : OpenClaim := { program := "ythnbghcfjkmpoaa", sum := "4966d83f6e7b0f243c361b7ee0b09bbb67b1e5ff7d1fa3f48b4cf21027392d27", func := "loop.example/g00160/laws.FnExactSetFault", spec := "fnExactSetFault", apart := false }
def FnExactSetFaultSaid : Prop := fnExactSetFaultRow.holds Try.pinned (OpenSpec.ofChange fnExactSetFaultSpec)

/-- ITS FALSE NEIGHBOUR: 'it returns false'. Refute it at one input. -/
def fnExactSetFaultWrong : ChangeSpec := { name := "fnExactSetFault", fn := fun _ => fun
  | [d] => { results := [.lit (.bool false)], args := [d] }
  | _ => none }
def FnExactSetFaultWrongFalsely : Prop := fnExactSetFaultRow.holds Try.pinned (OpenSpec.ofChange fnExactSetFaultWrong)

/-- 'laws.FnExactWidthFault': WHATEVER THE INPUT: true; the input reads as it did. -/
def fnExactWidthFaultSpec : ChangeSpec := { name := "fnExactWidthFault", fn := fun _ => fun
  | [d1, d2] => { results := [.lit (.bool true)], args := [d1, d2] }
  | _ => none }
def fnExactWidthFaultRow : OpenClaim := { program := "ythnbghcfjkmpoaa", sum := "4966d83f6e7b0f243c361b7ee0b09bbb67b1e5ff7d1fa3f48b4cf21027392d27", func := "loop.example/g00160/laws.FnExactWidthFault", spec := "fnExactWidthFault", apart := false }
def FnExactWidthFaultSaid : Prop := fnExactWidthFaultRow.holds Try.pinned (OpenSpec.ofChange fnExactWidthFaultSpec)

/-- ITS FALSE NEIGHBOUR: 'it returns false'. Refute it at one input. -/
def fnExactWidthFaultWrong : ChangeSpec := { name := "fnExactWidthFault", fn := fun _ => fun
  | [d1, d2] => { results := [.lit (.bool false)], args := [d1, d2] }
  | _ => none }
def FnExactWidthFaultWrongFalsely : Prop := fnExactWidthFaultRow.holds Try.pinned (OpenSpec.ofChange fnExactWidthFaultWrong)

/-- 'laws.FnExactTotalWeight': WHATEVER THE INPUT: true; the input reads as it did. -/
def fnExactTotalWeightSpec : ChangeSpec := { name := "fnExactTotalWeight", fn := fun _ => fun
  | [d] => { results := [.lit (.bool true)], args := [d] }
  | _ => none }
def fnExactTotalWeightRow : OpenClaim := { program := "ythnbghcfjkmpoaa", sum := "4966d83f6e7b0f243c361b7ee0b09bbb67b1e5ff7d1fa3f48b4cf21027392d27", func := "loop.example/g00160/laws.FnExactTotalWeight", spec := "fnExactTotalWeight", apart := false }
def FnExactTotalWeightSaid : Prop := fnExactTotalWeightRow.holds Try.pinned (OpenSpec.ofChange fnExactTotalWeightSpec)

/-- ITS FALSE NEIGHBOUR: 'it returns false'. Refute it at one input. -/
def fnExactTotalWeightWrong : ChangeSpec := { name := "fnExactTotalWeight", fn := fun _ => fun
  | [d] => { results := [.lit (.bool false)], args := [d] }
  | _ => none }
def FnExactTotalWeightWrongFalsely : Prop := fnExactTotalWeightRow.holds Try.pinned (OpenSpec.ofChange fnExactTotalWeightWrong)

/-- 'laws.FnExactWeightOf': WHATEVER THE INPUT: true; the input reads as it did. -/
def fnExactWeightOfSpec : ChangeSpec := { name := "fnExactWeightOf", fn := fun _ => fun
  | [d1, d2] => { results := [.lit (.bool true)], args := [d1, d2] }
  | _ => none }
def fnExactWeightOfRow : OpenClaim := { program := "ythnbghcfjkmpoaa", sum := "4966d83f6e7b0f243c361b7ee0b09bbb67b1e5ff7d1fa3f48b4cf21027392d27", func := "loop.example/g00160/laws.FnExactWeightOf", spec := "fnExactWeightOf", unfollowed := true, recurses := true, apart := false }
def FnExactWeightOfSaid : Prop := fnExactWeightOfRow.holds Try.pinned (OpenSpec.ofChange fnExactWeightOfSpec)

/-- ITS FALSE NEIGHBOUR: 'it returns false'. Refute it at one input. -/
def fnExactWeightOfWrong : ChangeSpec := { name := "fnExactWeightOf", fn := fun _ => fun
  | [d1, d2] => { results := [.lit (.bool false)], args := [d1, d2] }
  | _ => none }
def FnExactWeightOfWrongFalsely : Prop := fnExactWeightOfRow.holds Try.pinned (OpenSpec.ofChange fnExactWeightOfWrong)

/-- 'laws.FnExactDistinctOf': WHATEVER THE INPUT: true; the input reads as it did. -/
def fnExactDistinctOfSpec : ChangeSpec := { name := "fnExactDistinctOf", fn := fun _ => fun
  | [d] => { results := [.lit (.bool true)], args := [d] }
  | _ => none }
def fnExactDistinctOfRow : OpenClaim := { program := "ythnbghcfjkmpoaa", sum := "4966d83f6e7b0f243c361b7ee0b09bbb67b1e5ff7d1fa3f48b4cf21027392d27", func := "loop.example/g00160/laws.FnExactDistinctOf", spec := "fnExactDistinctOf", apart := false }
def FnExactDistinctOfSaid : Prop := fnExactDistinctOfRow.holds Try.pinned (OpenSpec.ofChange fnExactDistinctOfSpec)

/-- ITS FALSE NEIGHBOUR: 'it returns false'. Refute it at one input. -/
def fnExactDistinctOfWrong : ChangeSpec := { name := "fnExactDistinctOf", fn := fun _ => fun
  | [d] => { results := [.lit (.bool false)], args := [d] }
  | _ => none }
def FnExactDistinctOfWrongFalsely : Prop := fnExactDistinctOfRow.holds Try.pinned (OpenSpec.ofChange fnExactDistinctOfWrong)

/-- 'laws.FnExactNegateSet': WHATEVER THE INPUT: true; the input reads as it did. -/
def fnExactNegateSetSpec : ChangeSpec := { name := "fnExactNegateSet", fn := fun _ => fun
  | [d] => { results := [.lit (.bool true)], args := [d] }
  | _ => none }
def fnExactNegateSetRow : OpenClaim := { program := "ythnbghcfjkmpoaa", sum := "4966d83f6e7b0f243c361b7ee0b09bbb67b1e5ff7d1fa3f48b4cf21027392d27", func := "loop.example/g00160/laws.FnExactNegateSet", spec := "fnExactNegateSet", apart := false }
def FnExactNegateSetSaid : Prop := fnExactNegateSetRow.holds Try.pinned (OpenSpec.ofChange fnExactNegateSetSpec)

/-- ITS FALSE NEIGHBOUR: 'it returns false'. Refute it at one input. -/
def fnExactNegateSetWrong : ChangeSpec := { name := "fnExactNegateSet", fn := fun _ => fun
  | [d] => { results := [.lit (.bool false)], args := [d] }
  | _ => none }
def FnExactNegateSetWrongFalsely : Prop := fnExactNegateSetRow.holds Try.pinned (OpenSpec.ofChange fnExactNegateSetWrong)

/-- 'laws.FnExactFilterSet': WHATEVER THE INPUT: true; the input reads as it did. -/
def fnExactFilterSetSpec : ChangeSpec := { name := "fnExactFilterSet", fn := fun _ => fun
  | [d1, d2, d3, d4] => { results := [.lit (.bool true)], args := [d1, d2, d3, d4] }
  | _ => none }
def fnExactFilterSetRow : OpenClaim := { program := "ythnbghcfjkmpoaa", sum := "4966d83f6e7b0f243c361b7ee0b09bbb67b1e5ff7d1fa3f48b4cf21027392d27", func := "loop.example/g00160/laws.FnExactFilterSet", spec := "fnExactFilterSet", apart := false }
def FnExactFilterSetSaid : Prop := fnExactFilterSetRow.holds Try.pinned (OpenSpec.ofChange fnExactFilterSetSpec)

/-- ITS FALSE NEIGHBOUR: 'it returns false'. Refute it at one input. -/
def fnExactFilterSetWrong : ChangeSpec := { name := "fnExactFilterSet", fn := fun _ => fun
  | [d1, d2, d3, d4] => { results := [.lit (.bool false)], args := [d1, d2, d3, d4] }
  | _ => none }
def FnExactFilterSetWrongFalsely : Prop := fnExactFilterSetRow.holds Try.pinned (OpenSpec.ofChange fnExactFilterSetWrong)

/-- 'laws.FnExactScaleSet': WHATEVER THE INPUT: true; the input reads as it did. -/
def fnExactScaleSetSpec : ChangeSpec := { name := "fnExactScaleSet", fn := fun _ => fun
  | [d1, d2] => { results := [.lit (.bool true)], args := [d1, d2] }
  | _ => none }
def fnExactScaleSetRow : OpenClaim := { program := "ythnbghcfjkmpoaa", sum := "4966d83f6e7b0f243c361b7ee0b09bbb67b1e5ff7d1fa3f48b4cf21027392d27", func := "loop.example/g00160/laws.FnExactScaleSet", spec := "fnExactScaleSet", apart := false }
def FnExactScaleSetSaid : Prop := fnExactScaleSetRow.holds Try.pinned (OpenSpec.ofChange fnExactScaleSetSpec)

/-- ITS FALSE NEIGHBOUR: 'it returns false'. Refute it at one input. -/
def fnExactScaleSetWrong : ChangeSpec := { name := "fnExactScaleSet", fn := fun _ => fun
  | [d1, d2] => { results := [.lit (.bool false)], args := [d1, d2] }
  | _ => none }
def FnExactScaleSetWrongFalsely : Prop := fnExactScaleSetRow.holds Try.pinned (OpenSpec.ofChange fnExactScaleSetWrong)

/-- 'laws.FnExactKeysIn': WHATEVER THE INPUT: true; the input reads as it did. -/
def fnExactKeysInSpec : ChangeSpec := { name := "fnExactKeysIn", fn := fun _ => fun
  | [d1, d2] => { results := [.lit (.bool true)], args := [d1, d2] }
  | _ => none }
def fnExactKeysInRow : OpenClaim := { program := "ythnbghcfjkmpoaa", sum := "4966d83f6e7b0f243c361b7ee0b09bbb67b1e5ff7d1fa3f48b4cf21027392d27", func := "loop.example/g00160/laws.FnExactKeysIn", spec := "fnExactKeysIn", unfollowed := true, recurses := true, apart := false }
def FnExactKeysInSaid : Prop := fnExactKeysInRow.holds Try.pinned (OpenSpec.ofChange fnExactKeysInSpec)

/-- ITS FALSE NEIGHBOUR: 'it returns false'. Refute it at one input. -/
def fnExactKeysInWrong : ChangeSpec := { name := "fnExactKeysIn", fn := fun _ => fun
  | [d1, d2] => { results := [.lit (.bool false)], args := [d1, d2] }
  | _ => none }
def FnExactKeysInWrongFalsely : Prop := fnExactKeysInRow.holds Try.pinned (OpenSpec.ofChange fnExactKeysInWrong)

/-- 'laws.FnExactOnlyKeys': WHATEVER THE INPUT: true; the input reads as it did. -/
def fnExactOnlyKeysSpec : ChangeSpec := { name := "fnExactOnlyKeys", fn := fun _ => fun
  | [d1, d2, d3] => { results := [.lit (.bool true)], args := [d1, d2, d3] }
  | _ => none }
def fnExactOnlyKeysRow : OpenClaim := { program := "ythnbghcfjkmpoaa", sum := "4966d83f6e7b0f243c361b7ee0b09bbb67b1e5ff7d1fa3f48b4cf21027392d27", func := "loop.example/g00160/laws.FnExactOnlyKeys", spec := "fnExactOnlyKeys", unfollowed := true, recurses := true, apart := false }
def FnExactOnlyKeysSaid : Prop := fnExactOnlyKeysRow.holds Try.pinned (OpenSpec.ofChange fnExactOnlyKeysSpec)

/-- ITS FALSE NEIGHBOUR: 'it returns false'. Refute it at one input. -/
def fnExactOnlyKeysWrong : ChangeSpec := { name := "fnExactOnlyKeys", fn := fun _ => fun
  | [d1, d2, d3] => { results := [.lit (.bool false)], args := [d1, d2, d3] }
  | _ => none }
def FnExactOnlyKeysWrongFalsely : Prop := fnExactOnlyKeysRow.holds Try.pinned (OpenSpec.ofChange fnExactOnlyKeysWrong)

/- THE SECOND FORM. 'bulk': how many values and letters a reading holds, each counted each time it is reached (what is shared counts as often as it is met; a slice's spare places count too). A statement '..UptoSaid' is the law's where the arguments, and the package variables that the reading takes, are together of bulk at most 1048576: NARROWER than '..Said'. Prove '..Said' where nothing that the law and all that it calls make is longer than what came in: it says more and counts as full. Else prove '..UptoSaid'. A law counts once. -/
mutual
def uptoBulk {H : Type} : DataW H → Nat
  | .lit (.string bytes) => bytes.length + 1
  | .lit _ => 1
  | .nil => 1
  | .ptr d => uptoBulk d + 1
  | .slice elems spare => uptoBulkAll elems + uptoBulkAll spare + 1
  | .agg parts => uptoBulkAll parts + 1
  | .iface _ d => uptoBulk d + 1
  | .map entries => uptoBulkEntries entries + 1
  | .held _ => 1
def uptoBulkAll {H : Type} : List (DataW H) → Nat
  | [] => 0
  | d :: r => uptoBulk d + uptoBulkAll r
def uptoBulkEntries {H : Type} : List (Lit × DataW H) → Nat
  | [] => 0
  | x :: r => uptoBulkEntry x + uptoBulkEntries r
def uptoBulkEntry {H : Type} : Lit × DataW H → Nat
  | (.string bytes, d) => bytes.length + uptoBulk d + 1
  | (_, d) => uptoBulk d + 1
 end
def uptoSmall : (H : Type) → List (DataW H) → Bool := fun _ ds => decide (uptoBulkAll ds ≤ 1048576)
def OpenSpec.upto (s : _root_.Go.ChangeSpec) : _root_.Go.OpenSpec := { _root_.Go.OpenSpec.ofChange s with cond := some uptoSmall }

/-- 'laws.FnExactSameSets', WHERE WHAT IT READS IS OF BULK AT MOST 1048576: true; the input reads as it did. -/
def fnExactSameSetsUptoRow : OpenClaim := { program := "ythnbghcfjkmpoaa", sum := "4966d83f6e7b0f243c361b7ee0b09bbb67b1e5ff7d1fa3f48b4cf21027392d27", func := "loop.example/g00160/laws.FnExactSameSets", spec := "fnExactSameSets", unfollowed := true, recurses := true, apart := false, narrowed := true }
def FnExactSameSetsUptoSaid : Prop := fnExactSameSetsUptoRow.holds Try.pinned (OpenSpec.upto fnExactSameSetsSpec)

/-- 'laws.FnExactSetFault', WHERE WHAT IT READS IS OF BULK AT MOST 1048576: true; the input reads as it did. -/
def fnExactSetFaultUptoRow : OpenClaim := { program := "ythnbghcfjkmpoaa", sum := "4966d83f6e7b0f243c361b7ee0b09bbb67b1e5ff7d1fa3f48b4cf21027392d27", func := "loop.example/g00160/laws.FnExactSetFault", spec := "fnExactSetFault", apart := false, narrowed := true }
def FnExactSetFaultUptoSaid : Prop := fnExactSetFaultUptoRow.holds Try.pinned (OpenSpec.upto fnExactSetFaultSpec)

/-- 'laws.FnExactWidthFault', WHERE WHAT IT READS IS OF BULK AT MOST 1048576: true; the input reads as it did. -/
def fnExactWidthFaultUptoRow : OpenClaim := { program := "ythnbghcfjkmpoaa", sum := "4966d83f6e7b0f243c361b7ee0b09bbb67b1e5ff7d1fa3f48b4cf21027392d27", func := "loop.example/g00160/laws.FnExactWidthFault", spec := "fnExactWidthFault", apart := false, narrowed := true }
def FnExactWidthFaultUptoSaid : Prop := fnExactWidthFaultUptoRow.holds Try.pinned (OpenSpec.upto fnExactWidthFaultSpec)

/-- 'laws.FnExactTotalWeight', WHERE WHAT IT READS IS OF BULK AT MOST 1048576: true; the input reads as it did. -/
def fnExactTotalWeightUptoRow : OpenClaim := { program := "ythnbghcfjkmpoaa", sum := "4966d83f6e7b0f243c361b7ee0b09bbb67b1e5ff7d1fa3f48b4cf21027392d27", func := "loop.example/g00160/laws.FnExactTotalWeight", spec := "fnExactTotalWeight", apart := false, narrowed := true }
def FnExactTotalWeightUptoSaid : Prop := fnExactTotalWeightUptoRow.holds Try.pinned (OpenSpec.upto fnExactTotalWeightSpec)

/-- 'laws.FnExactWeightOf', WHERE WHAT IT READS IS OF BULK AT MOST 1048576: true; the input reads as it did. -/
def fnExactWeightOfUptoRow : OpenClaim := { program := "ythnbghcfjkmpoaa", sum := "4966d83f6e7b0f243c361b7ee0b09bbb67b1e5ff7d1fa3f48b4cf21027392d27", func := "loop.example/g00160/laws.FnExactWeightOf", spec := "fnExactWeightOf", unfollowed := true, recurses := true, apart := false, narrowed := true }
def FnExactWeightOfUptoSaid : Prop := fnExactWeightOfUptoRow.holds Try.pinned (OpenSpec.upto fnExactWeightOfSpec)

/-- 'laws.FnExactDistinctOf', WHERE WHAT IT READS IS OF BULK AT MOST 1048576: true; the input reads as it did. -/
def fnExactDistinctOfUptoRow : OpenClaim := { program := "ythnbghcfjkmpoaa", sum := "4966d83f6e7b0f243c361b7ee0b09bbb67b1e5ff7d1fa3f48b4cf21027392d27", func := "loop.example/g00160/laws.FnExactDistinctOf", spec := "fnExactDistinctOf", apart := false, narrowed := true }
def FnExactDistinctOfUptoSaid : Prop := fnExactDistinctOfUptoRow.holds Try.pinned (OpenSpec.upto fnExactDistinctOfSpec)

/-- 'laws.FnExactNegateSet', WHERE WHAT IT READS IS OF BULK AT MOST 1048576: true; the input reads as it did. -/
def fnExactNegateSetUptoRow : OpenClaim := { program := "ythnbghcfjkmpoaa", sum := "4966d83f6e7b0f243c361b7ee0b09bbb67b1e5ff7d1fa3f48b4cf21027392d27", func := "loop.example/g00160/laws.FnExactNegateSet", spec := "fnExactNegateSet", apart := false, narrowed := true }
def FnExactNegateSetUptoSaid : Prop := fnExactNegateSetUptoRow.holds Try.pinned (OpenSpec.upto fnExactNegateSetSpec)

/-- 'laws.FnExactFilterSet', WHERE WHAT IT READS IS OF BULK AT MOST 1048576: true; the input reads as it did. -/
def fnExactFilterSetUptoRow : OpenClaim := { program := "ythnbghcfjkmpoaa", sum := "4966d83f6e7b0f243c361b7ee0b09bbb67b1e5ff7d1fa3f48b4cf21027392d27", func := "loop.example/g00160/laws.FnExactFilterSet", spec := "fnExactFilterSet", apart := false, narrowed := true }
def FnExactFilterSetUptoSaid : Prop := fnExactFilterSetUptoRow.holds Try.pinned (OpenSpec.upto fnExactFilterSetSpec)

/-- 'laws.FnExactScaleSet', WHERE WHAT IT READS IS OF BULK AT MOST 1048576: true; the input reads as it did. -/
def fnExactScaleSetUptoRow : OpenClaim := { program := "ythnbghcfjkmpoaa", sum := "4966d83f6e7b0f243c361b7ee0b09bbb67b1e5ff7d1fa3f48b4cf21027392d27", func := "loop.example/g00160/laws.FnExactScaleSet", spec := "fnExactScaleSet", apart := false, narrowed := true }
def FnExactScaleSetUptoSaid : Prop := fnExactScaleSetUptoRow.holds Try.pinned (OpenSpec.upto fnExactScaleSetSpec)

/-- 'laws.FnExactKeysIn', WHERE WHAT IT READS IS OF BULK AT MOST 1048576: true; the input reads as it did. -/
def fnExactKeysInUptoRow : OpenClaim := { program := "ythnbghcfjkmpoaa", sum := "4966d83f6e7b0f243c361b7ee0b09bbb67b1e5ff7d1fa3f48b4cf21027392d27", func := "loop.example/g00160/laws.FnExactKeysIn", spec := "fnExactKeysIn", unfollowed := true, recurses := true, apart := false, narrowed := true }
def FnExactKeysInUptoSaid : Prop := fnExactKeysInUptoRow.holds Try.pinned (OpenSpec.upto fnExactKeysInSpec)

/-- 'laws.FnExactOnlyKeys', WHERE WHAT IT READS IS OF BULK AT MOST 1048576: true; the input reads as it did. -/
def fnExactOnlyKeysUptoRow : OpenClaim := { program := "ythnbghcfjkmpoaa", sum := "4966d83f6e7b0f243c361b7ee0b09bbb67b1e5ff7d1fa3f48b4cf21027392d27", func := "loop.example/g00160/laws.FnExactOnlyKeys", spec := "fnExactOnlyKeys", unfollowed := true, recurses := true, apart := false, narrowed := true }
def FnExactOnlyKeysUptoSaid : Prop := fnExactOnlyKeysUptoRow.holds Try.pinned (OpenSpec.upto fnExactOnlyKeysSpec)

end Rows
end Go.Proofs.Ythnbghcfjkmpoaa
