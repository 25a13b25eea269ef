/-
  No cell of these rows narrows 'for every input' (looked for: loops, veiled, ifaces, maps, wideKeys, modest, calm, conditions, laid).
  DERIVED. THE GIVEN ROWS OF THIS SEAT. 8 by the template 'for every input the law returns true; each argument reads behind the call as it read before'; 0 by the template 'total and deterministic' (their statements: YteibdjkfkcckkaaTotals.lean).
  GIVEN WITH THE SEED: the statements are not yours to turn. If you find one false, say at which input.
  Laid BY PROGRAM, IN A SANDBOX (cutbox-rows.mjs): the forced cells as the released guide's own fill.sh prints them over the translation cc77bbec624c6022… (all of the seat's roots in one cut). By AI agents, Wed Nov 11 2026. No macro, syntax, notation, axiom, sorry.
-/
import Derived.Test.YteibdjkfkcckkaaChecked
import GoSem.Claim
import GoSem.ClaimJoined
import GoSem.ClaimMapViews
import Derived.JoinedTies
import Derived.KernelRfl
namespace Go.Proofs.Yteibdjkfkcckkaa
/- THE CELL 'sum', in the pinned program and in every row, IS THE sha256 OF THE DUMP (.gsa) THAT YteibdjkfkcckkaaProg.lean LOADS. Nothing in Lean hashes anything: it is a label: what it is worth is what the hold of that sum in a sandbox is worth. -/
noncomputable def Try.pinned : Pinned := { name := "yteibdjkfkcckkaa", sum := "cc77bbec624c60228787bf721901f7d8722a4877b3c30b49ffb6af80e5747abd", checked := Try.checked }
namespace Rows
def none {H : Type} : Left H := { results := [], args := [] }

/-- 'laws.FnExactPlanFault': WHATEVER THE INPUT: true; the input reads as it did. -/
def fnExactPlanFaultSpec : ChangeSpec := { name := "fnExactPlanFault", fn := fun _ => fun
  | [d] => { results := [.lit (.bool true)], args := [d] }
  | _ => none }
def fnExactPlanFaultRow : OpenClaim := { program := "yteibdjkfkcckkaa", sum := "cc77bbec624c60228787bf721901f7d8722a4877b3c30b49ffb6af80e5747abd", func := "loop.example/g00160/laws.FnExactPlanFault", spec := "fnExactPlanFault", recurses := true, apart := false }
def FnExactPlanFaultSaid : Prop := fnExactPlanFaultRow.holds Try.pinned (OpenSpec.ofChange fnExactPlanFaultSpec)

/-- ITS FALSE NEIGHBOUR: 'it returns false'. Refute it at one input. -/
def fnExactPlanFaultWrong : ChangeSpec := { name := "fnExactPlanFault", fn := fun _ => fun
  | [d] => { results := [.lit (.bool false)], args := [d] }
  | _ => none }
def FnExactPlanFaultWrongFalsely : Prop := fnExactPlanFaultRow.holds Try.pinned (OpenSpec.ofChange fnExactPlanFaultWrong)

/-- 'laws.FnExactWidthOf': WHATEVER THE INPUT: true; the input reads as it did. -/
def fnExactWidthOfSpec : ChangeSpec := { name := "fnExactWidthOf", fn := fun _ => fun
  | [d1, d2] => { results := [.lit (.bool true)], args := [d1, d2] }
  | _ => none }
def fnExactWidthOfRow : OpenClaim := { program := "yteibdjkfkcckkaa", sum := "cc77bbec624c60228787bf721901f7d8722a4877b3c30b49ffb6af80e5747abd", func := "loop.example/g00160/laws.FnExactWidthOf", spec := "fnExactWidthOf", recurses := true, apart := false }
def FnExactWidthOfSaid : Prop := fnExactWidthOfRow.holds Try.pinned (OpenSpec.ofChange fnExactWidthOfSpec)

/-- ITS FALSE NEIGHBOUR: 'it returns false'. Refute it at one input. -/
def fnExactWidthOfWrong : ChangeSpec := { name := "fnExactWidthOf", fn := fun _ => fun
  | [d1, d2] => { results := [.lit (.bool false)], args := [d1, d2] }
  | _ => none }
def FnExactWidthOfWrongFalsely : Prop := fnExactWidthOfRow.holds Try.pinned (OpenSpec.ofChange fnExactWidthOfWrong)

/-- 'laws.FnExactFeedsOn': WHATEVER THE INPUT: true; the input reads as it did. -/
def fnExactFeedsOnSpec : ChangeSpec := { name := "fnExactFeedsOn", fn := fun _ => fun
  | [d1, d2, d3] => { results := [.lit (.bool true)], args := [d1, d2, d3] }
  | _ => none }
def fnExactFeedsOnRow : OpenClaim := { program := "yteibdjkfkcckkaa", sum := "cc77bbec624c60228787bf721901f7d8722a4877b3c30b49ffb6af80e5747abd", func := "loop.example/g00160/laws.FnExactFeedsOn", spec := "fnExactFeedsOn", unfollowed := true, recurses := true, apart := false }
def FnExactFeedsOnSaid : Prop := fnExactFeedsOnRow.holds Try.pinned (OpenSpec.ofChange fnExactFeedsOnSpec)

/-- ITS FALSE NEIGHBOUR: 'it returns false'. Refute it at one input. -/
def fnExactFeedsOnWrong : ChangeSpec := { name := "fnExactFeedsOn", fn := fun _ => fun
  | [d1, d2, d3] => { results := [.lit (.bool false)], args := [d1, d2, d3] }
  | _ => none }
def FnExactFeedsOnWrongFalsely : Prop := fnExactFeedsOnRow.holds Try.pinned (OpenSpec.ofChange fnExactFeedsOnWrong)

/-- 'laws.FnExactKeyOf': WHATEVER THE INPUT: true; the input reads as it did. -/
def fnExactKeyOfSpec : ChangeSpec := { name := "fnExactKeyOf", fn := fun _ => fun
  | [d1, d2] => { results := [.lit (.bool true)], args := [d1, d2] }
  | _ => none }
def fnExactKeyOfRow : OpenClaim := { program := "yteibdjkfkcckkaa", sum := "cc77bbec624c60228787bf721901f7d8722a4877b3c30b49ffb6af80e5747abd", func := "loop.example/g00160/laws.FnExactKeyOf", spec := "fnExactKeyOf", recurses := true, apart := false }
def FnExactKeyOfSaid : Prop := fnExactKeyOfRow.holds Try.pinned (OpenSpec.ofChange fnExactKeyOfSpec)

/-- ITS FALSE NEIGHBOUR: 'it returns false'. Refute it at one input. -/
def fnExactKeyOfWrong : ChangeSpec := { name := "fnExactKeyOf", fn := fun _ => fun
  | [d1, d2] => { results := [.lit (.bool false)], args := [d1, d2] }
  | _ => none }
def FnExactKeyOfWrongFalsely : Prop := fnExactKeyOfRow.holds Try.pinned (OpenSpec.ofChange fnExactKeyOfWrong)

/-- 'laws.FnFeeds': WHATEVER THE INPUT: true; the input reads as it did. -/
def fnFeedsSpec : ChangeSpec := { name := "fnFeeds", fn := fun _ => fun
  | [d] => { results := [.lit (.bool true)], args := [d] }
  | _ => none }
def fnFeedsRow : OpenClaim := { program := "yteibdjkfkcckkaa", sum := "cc77bbec624c60228787bf721901f7d8722a4877b3c30b49ffb6af80e5747abd", func := "loop.example/g00160/laws.FnFeeds", spec := "fnFeeds", unfollowed := true, recurses := true, apart := false }
def FnFeedsSaid : Prop := fnFeedsRow.holds Try.pinned (OpenSpec.ofChange fnFeedsSpec)

/-- ITS FALSE NEIGHBOUR: 'it returns false'. Refute it at one input. -/
def fnFeedsWrong : ChangeSpec := { name := "fnFeeds", fn := fun _ => fun
  | [d] => { results := [.lit (.bool false)], args := [d] }
  | _ => none }
def FnFeedsWrongFalsely : Prop := fnFeedsRow.holds Try.pinned (OpenSpec.ofChange fnFeedsWrong)

/-- 'laws.FnExactNodesOf': WHATEVER THE INPUT: true; the input reads as it did. -/
def fnExactNodesOfSpec : ChangeSpec := { name := "fnExactNodesOf", fn := fun _ => fun
  | [d1, d2] => { results := [.lit (.bool true)], args := [d1, d2] }
  | _ => none }
def fnExactNodesOfRow : OpenClaim := { program := "yteibdjkfkcckkaa", sum := "cc77bbec624c60228787bf721901f7d8722a4877b3c30b49ffb6af80e5747abd", func := "loop.example/g00160/laws.FnExactNodesOf", spec := "fnExactNodesOf", recurses := true, apart := false }
def FnExactNodesOfSaid : Prop := fnExactNodesOfRow.holds Try.pinned (OpenSpec.ofChange fnExactNodesOfSpec)

/-- ITS FALSE NEIGHBOUR: 'it returns false'. Refute it at one input. -/
def fnExactNodesOfWrong : ChangeSpec := { name := "fnExactNodesOf", fn := fun _ => fun
  | [d1, d2] => { results := [.lit (.bool false)], args := [d1, d2] }
  | _ => none }
def FnExactNodesOfWrongFalsely : Prop := fnExactNodesOfRow.holds Try.pinned (OpenSpec.ofChange fnExactNodesOfWrong)

/-- 'laws.FnExactReadersOf': WHATEVER THE INPUT: true; the input reads as it did. -/
def fnExactReadersOfSpec : ChangeSpec := { name := "fnExactReadersOf", fn := fun _ => fun
  | [d1, d2] => { results := [.lit (.bool true)], args := [d1, d2] }
  | _ => none }
def fnExactReadersOfRow : OpenClaim := { program := "yteibdjkfkcckkaa", sum := "cc77bbec624c60228787bf721901f7d8722a4877b3c30b49ffb6af80e5747abd", func := "loop.example/g00160/laws.FnExactReadersOf", spec := "fnExactReadersOf", recurses := true, apart := false }
def FnExactReadersOfSaid : Prop := fnExactReadersOfRow.holds Try.pinned (OpenSpec.ofChange fnExactReadersOfSpec)

/-- ITS FALSE NEIGHBOUR: 'it returns false'. Refute it at one input. -/
def fnExactReadersOfWrong : ChangeSpec := { name := "fnExactReadersOf", fn := fun _ => fun
  | [d1, d2] => { results := [.lit (.bool false)], args := [d1, d2] }
  | _ => none }
def FnExactReadersOfWrongFalsely : Prop := fnExactReadersOfRow.holds Try.pinned (OpenSpec.ofChange fnExactReadersOfWrong)

/-- 'laws.FnExactInputsFault': WHATEVER THE INPUT: true; the input reads as it did. -/
def fnExactInputsFaultSpec : ChangeSpec := { name := "fnExactInputsFault", fn := fun _ => fun
  | [d1, d2] => { results := [.lit (.bool true)], args := [d1, d2] }
  | _ => none }
def fnExactInputsFaultRow : OpenClaim := { program := "yteibdjkfkcckkaa", sum := "cc77bbec624c60228787bf721901f7d8722a4877b3c30b49ffb6af80e5747abd", func := "loop.example/g00160/laws.FnExactInputsFault", spec := "fnExactInputsFault", recurses := true, apart := false }
def FnExactInputsFaultSaid : Prop := fnExactInputsFaultRow.holds Try.pinned (OpenSpec.ofChange fnExactInputsFaultSpec)

/-- ITS FALSE NEIGHBOUR: 'it returns false'. Refute it at one input. -/
def fnExactInputsFaultWrong : ChangeSpec := { name := "fnExactInputsFault", fn := fun _ => fun
  | [d1, d2] => { results := [.lit (.bool false)], args := [d1, d2] }
  | _ => none }
def FnExactInputsFaultWrongFalsely : Prop := fnExactInputsFaultRow.holds Try.pinned (OpenSpec.ofChange fnExactInputsFaultWrong)

/- THE SECOND FORM. 'bulk': how many values and letters a reading holds, each counted each time it is reached (what is shared counts as often as it is met; a slice's spare places count too). A statement '..UptoSaid' is the law's where the arguments, and the package variables that the reading takes, are together of bulk at most 1048576: NARROWER than '..Said'. Prove '..Said' where nothing that the law and all that it calls make is longer than what came in: it says more and counts as full. Else prove '..UptoSaid'. A law counts once. -/
mutual
def uptoBulk {H : Type} : DataW H → Nat
  | .lit (.string bytes) => bytes.length + 1
  | .lit _ => 1
  | .nil => 1
  | .ptr d => uptoBulk d + 1
  | .slice elems spare => uptoBulkAll elems + uptoBulkAll spare + 1
  | .agg parts => uptoBulkAll parts + 1
  | .iface _ d => uptoBulk d + 1
  | .map entries => uptoBulkEntries entries + 1
  | .held _ => 1
def uptoBulkAll {H : Type} : List (DataW H) → Nat
  | [] => 0
  | d :: r => uptoBulk d + uptoBulkAll r
def uptoBulkEntries {H : Type} : List (Lit × DataW H) → Nat
  | [] => 0
  | x :: r => uptoBulkEntry x + uptoBulkEntries r
def uptoBulkEntry {H : Type} : Lit × DataW H → Nat
  | (.string bytes, d) => bytes.length + uptoBulk d + 1
  | (_, d) => uptoBulk d + 1
 end
def uptoSmall : (H : Type) → List (DataW H) → Bool := fun _ ds => decide (uptoBulkAll ds ≤ 1048576)
def OpenSpec.upto (s : _root_.Go.ChangeSpec) : _root_.Go.OpenSpec := { _root_.Go.OpenSpec.ofChange s with cond := some uptoSmall }

/-- 'laws.FnExactPlanFault', WHERE WHAT IT READS IS OF BULK AT MOST 1048576: true; the input reads as it did. -/
def fnExactPlanFaultUptoRow : OpenClaim := { program := "yteibdjkfkcckkaa", sum := "cc77bbec624c60228787bf721901f7d8722a4877b3c30b49ffb6af80e5747abd", func := "loop.example/g00160/laws.FnExactPlanFault", spec := "fnExactPlanFault", recurses := true, apart := false, narrowed := true }
def FnExactPlanFaultUptoSaid : Prop := fnExactPlanFaultUptoRow.holds Try.pinned (OpenSpec.upto fnExactPlanFaultSpec)

/-- 'laws.FnExactWidthOf', WHERE WHAT IT READS IS OF BULK AT MOST 1048576: true; the input reads as it did. -/
def fnExactWidthOfUptoRow : OpenClaim := { program := "yteibdjkfkcckkaa", sum := "cc77bbec624c60228787bf721901f7d8722a4877b3c30b49ffb6af80e5747abd", func := "loop.example/g00160/laws.FnExactWidthOf", spec := "fnExactWidthOf", recurses := true, apart := false, narrowed := true }
def FnExactWidthOfUptoSaid : Prop := fnExactWidthOfUptoRow.holds Try.pinned (OpenSpec.upto fnExactWidthOfSpec)

/-- 'laws.FnExactFeedsOn', WHERE WHAT IT READS IS OF BULK AT MOST 1048576: true; the input reads as it did. -/
def fnExactFeedsOnUptoRow : OpenClaim := { program := "yteibdjkfkcckkaa", sum := "cc77bbec624c60228787bf721901f7d8722a4877b3c30b49ffb6af80e5747abd", func := "loop.example/g00160/laws.FnExactFeedsOn", spec := "fnExactFeedsOn", unfollowed := true, recurses := true, apart := false, narrowed := true }
def FnExactFeedsOnUptoSaid : Prop := fnExactFeedsOnUptoRow.holds Try.pinned (OpenSpec.upto fnExactFeedsOnSpec)

/-- 'laws.FnExactKeyOf', WHERE WHAT IT READS IS OF BULK AT MOST 1048576: true; the input reads as it did. -/
def fnExactKeyOfUptoRow : OpenClaim := { program := "yteibdjkfkcckkaa", sum := "cc77bbec624c60228787bf721901f7d8722a4877b3c30b49ffb6af80e5747abd", func := "loop.example/g00160/laws.FnExactKeyOf", spec := "fnExactKeyOf", recurses := true, apart := false, narrowed := true }
def FnExactKeyOfUptoSaid : Prop := fnExactKeyOfUptoRow.holds Try.pinned (OpenSpec.upto fnExactKeyOfSpec)

/-- 'laws.FnFeeds', WHERE WHAT IT READS IS OF BULK AT MOST 1048576: true; the input reads as it did. -/
def fnFeedsUptoRow : OpenClaim := { program := "yteibdjkfkcckkaa", sum := "cc77bbec624c60228787bf721901f7d8722a4877b3c30b49ffb6af80e5747abd", func := "loop.example/g00160/laws.FnFeeds", spec := "fnFeeds", unfollowed := true, recurses := true, apart := false, narrowed := true }
def FnFeedsUptoSaid : Prop := fnFeedsUptoRow.holds Try.pinned (OpenSpec.upto fnFeedsSpec)

/-- 'laws.FnExactNodesOf', WHERE WHAT IT READS IS OF BULK AT MOST 1048576: true; the input reads as it did. -/
def fnExactNodesOfUptoRow : OpenClaim := { program := "yteibdjkfkcckkaa", sum := "cc77bbec624c60228787bf721901f7d8722a4877b3c30b49ffb6af80e5747abd", func := "loop.example/g00160/laws.FnExactNodesOf", spec := "fnExactNodesOf", recurses := true, apart := false, narrowed := true }
def FnExactNodesOfUptoSaid : Prop := fnExactNodesOfUptoRow.holds Try.pinned (OpenSpec.upto fnExactNodesOfSpec)

/-- 'laws.FnExactReadersOf', WHERE WHAT IT READS IS OF BULK AT MOST 1048576: true; the input reads as it did. -/
def fnExactReadersOfUptoRow : OpenClaim := { program := "yteibdjkfkcckkaa", sum := "cc77bbec624c60228787bf721901f7d8722a4877b3c30b49ffb6af80e5747abd", func := "loop.example/g00160/laws.FnExactReadersOf", spec := "fnExactReadersOf", recurses := true, apart := false, narrowed := true }
def FnExactReadersOfUptoSaid : Prop := fnExactReadersOfUptoRow.holds Try.pinned (OpenSpec.upto fnExactReadersOfSpec)

/-- 'laws.FnExactInputsFault', WHERE WHAT IT READS IS OF BULK AT MOST 1048576: true; the input reads as it did. -/
def fnExactInputsFaultUptoRow : OpenClaim := { program := "yteibdjkfkcckkaa", sum := "cc77bbec624c60228787bf721901f7d8722a4877b3c30b49ffb6af80e5747abd", func := "loop.example/g00160/laws.FnExactInputsFault", spec := "fnExactInputsFault", recurses := true, apart := false, narrowed := true }
def FnExactInputsFaultUptoSaid : Prop := fnExactInputsFaultUptoRow.holds Try.pinned (OpenSpec.upto fnExactInputsFaultSpec)

end Rows
end Go.Proofs.Yteibdjkfkcckkaa
