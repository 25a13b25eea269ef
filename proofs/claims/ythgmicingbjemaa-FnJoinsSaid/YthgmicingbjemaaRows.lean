/-
  No cell of these rows narrows 'for every input' (looked for: loops, veiled, ifaces, maps, wideKeys, modest, calm, conditions, laid).
  DERIVED. THE GIVEN ROWS OF THIS SEAT. 8 by the template 'for every input the law returns true; each argument reads behind the call as it read before'; 0 by the template 'total and deterministic' (their statements: YthgmicingbjemaaTotals.lean).
  GIVEN WITH THE SEED: the statements are not yours to turn. If you find one false, say at which input.
  Laid BY PROGRAM, IN A SANDBOX (cutbox-rows.mjs): the forced cells as the released guide's own fill.sh prints them over the translation 95c023a533943d9b… (all of the seat's roots in one cut). By AI agents, Wed Nov 11 2026. No macro, syntax, notation, axiom, sorry.
-/
import Derived.Test.YthgmicingbjemaaChecked
import GoSem.Claim
import GoSem.ClaimJoined
import GoSem.ClaimMapViews
import Derived.JoinedTies
import Derived.KernelRfl
namespace Go.Proofs.Ythgmicingbjemaa
/- THE CELL 'sum', in the pinned program and in every row, IS THE sha256 OF THE DUMP (.gsa) THAT YthgmicingbjemaaProg.lean LOADS. Nothing in Lean hashes anything: it is a label: what it is worth is what the hold of that sum in a sandbox is worth. -/
noncomputable def Try.pinned : Pinned := { name := "ythgmicingbjemaa", sum := "95c023a533943d9b186b9ae3beab93bed79837a23dadca4c0e27e10777a28906", checked := Try.checked }
namespace Rows
def none {H : Type} : Left H := { results := [], args := [] }

/-- 'laws.FnExactConsolidate': WHATEVER THE INPUT: true; the input reads as it did. -/
def fnExactConsolidateSpec : ChangeSpec := { name := "fnExactConsolidate", fn := fun _ => fun
  | [d] => { results := [.lit (.bool true)], args := [d] }
  | _ => none }
def fnExactConsolidateRow : OpenClaim := { program := "ythgmicingbjemaa", sum := "95c023a533943d9b186b9ae3beab93bed79837a23dadca4c0e27e10777a28906", func := "loop.example/g00160/laws.FnExactConsolidate", spec := "fnExactConsolidate", unfollowed := true, recurses := true, apart := false }
def FnExactConsolidateSaid : Prop := fnExactConsolidateRow.holds Try.pinned (OpenSpec.ofChange fnExactConsolidateSpec)

/-- ITS FALSE NEIGHBOUR: 'it returns false'. Refute it at one input. -/
def fnExactConsolidateWrong : ChangeSpec := { name := "fnExactConsolidate", fn := fun _ => fun
  | [d] => { results := [.lit (.bool false)], args := [d] }
  | _ => none }
def FnExactConsolidateWrongFalsely : Prop := fnExactConsolidateRow.holds Try.pinned (OpenSpec.ofChange fnExactConsolidateWrong)

/-- 'laws.FnExactGroupSet': WHATEVER THE INPUT: true; the input reads as it did. -/
def fnExactGroupSetSpec : ChangeSpec := { name := "fnExactGroupSet", fn := fun _ => fun
  | [d1, d2, d3] => { results := [.lit (.bool true)], args := [d1, d2, d3] }
  | _ => none }
def fnExactGroupSetRow : OpenClaim := { program := "ythgmicingbjemaa", sum := "95c023a533943d9b186b9ae3beab93bed79837a23dadca4c0e27e10777a28906", func := "loop.example/g00160/laws.FnExactGroupSet", spec := "fnExactGroupSet", unfollowed := true, recurses := true, apart := false }
def FnExactGroupSetSaid : Prop := fnExactGroupSetRow.holds Try.pinned (OpenSpec.ofChange fnExactGroupSetSpec)

/-- ITS FALSE NEIGHBOUR: 'it returns false'. Refute it at one input. -/
def fnExactGroupSetWrong : ChangeSpec := { name := "fnExactGroupSet", fn := fun _ => fun
  | [d1, d2, d3] => { results := [.lit (.bool false)], args := [d1, d2, d3] }
  | _ => none }
def FnExactGroupSetWrongFalsely : Prop := fnExactGroupSetRow.holds Try.pinned (OpenSpec.ofChange fnExactGroupSetWrong)

/-- 'laws.FnGrouped': WHATEVER THE INPUT: true; the input reads as it did. -/
def fnGroupedSpec : ChangeSpec := { name := "fnGrouped", fn := fun _ => fun
  | [d] => { results := [.lit (.bool true)], args := [d] }
  | _ => none }
def fnGroupedRow : OpenClaim := { program := "ythgmicingbjemaa", sum := "95c023a533943d9b186b9ae3beab93bed79837a23dadca4c0e27e10777a28906", func := "loop.example/g00160/laws.FnGrouped", spec := "fnGrouped", unfollowed := true, recurses := true, apart := false }
def FnGroupedSaid : Prop := fnGroupedRow.holds Try.pinned (OpenSpec.ofChange fnGroupedSpec)

/-- ITS FALSE NEIGHBOUR: 'it returns false'. Refute it at one input. -/
def fnGroupedWrong : ChangeSpec := { name := "fnGrouped", fn := fun _ => fun
  | [d] => { results := [.lit (.bool false)], args := [d] }
  | _ => none }
def FnGroupedWrongFalsely : Prop := fnGroupedRow.holds Try.pinned (OpenSpec.ofChange fnGroupedWrong)

/-- 'laws.FnExactProjectSet': WHATEVER THE INPUT: true; the input reads as it did. -/
def fnExactProjectSetSpec : ChangeSpec := { name := "fnExactProjectSet", fn := fun _ => fun
  | [d1, d2] => { results := [.lit (.bool true)], args := [d1, d2] }
  | _ => none }
def fnExactProjectSetRow : OpenClaim := { program := "ythgmicingbjemaa", sum := "95c023a533943d9b186b9ae3beab93bed79837a23dadca4c0e27e10777a28906", func := "loop.example/g00160/laws.FnExactProjectSet", spec := "fnExactProjectSet", unfollowed := true, recurses := true, apart := false }
def FnExactProjectSetSaid : Prop := fnExactProjectSetRow.holds Try.pinned (OpenSpec.ofChange fnExactProjectSetSpec)

/-- ITS FALSE NEIGHBOUR: 'it returns false'. Refute it at one input. -/
def fnExactProjectSetWrong : ChangeSpec := { name := "fnExactProjectSet", fn := fun _ => fun
  | [d1, d2] => { results := [.lit (.bool false)], args := [d1, d2] }
  | _ => none }
def FnExactProjectSetWrongFalsely : Prop := fnExactProjectSetRow.holds Try.pinned (OpenSpec.ofChange fnExactProjectSetWrong)

/-- 'laws.FnExactAddSets': WHATEVER THE INPUT: true; the input reads as it did. -/
def fnExactAddSetsSpec : ChangeSpec := { name := "fnExactAddSets", fn := fun _ => fun
  | [d1, d2] => { results := [.lit (.bool true)], args := [d1, d2] }
  | _ => none }
def fnExactAddSetsRow : OpenClaim := { program := "ythgmicingbjemaa", sum := "95c023a533943d9b186b9ae3beab93bed79837a23dadca4c0e27e10777a28906", func := "loop.example/g00160/laws.FnExactAddSets", spec := "fnExactAddSets", unfollowed := true, recurses := true, apart := false }
def FnExactAddSetsSaid : Prop := fnExactAddSetsRow.holds Try.pinned (OpenSpec.ofChange fnExactAddSetsSpec)

/-- ITS FALSE NEIGHBOUR: 'it returns false'. Refute it at one input. -/
def fnExactAddSetsWrong : ChangeSpec := { name := "fnExactAddSets", fn := fun _ => fun
  | [d1, d2] => { results := [.lit (.bool false)], args := [d1, d2] }
  | _ => none }
def FnExactAddSetsWrongFalsely : Prop := fnExactAddSetsRow.holds Try.pinned (OpenSpec.ofChange fnExactAddSetsWrong)

/-- 'laws.FnGroups': WHATEVER THE INPUT: true; the input reads as it did. -/
def fnGroupsSpec : ChangeSpec := { name := "fnGroups", fn := fun _ => fun
  | [d] => { results := [.lit (.bool true)], args := [d] }
  | _ => none }
def fnGroupsRow : OpenClaim := { program := "ythgmicingbjemaa", sum := "95c023a533943d9b186b9ae3beab93bed79837a23dadca4c0e27e10777a28906", func := "loop.example/g00160/laws.FnGroups", spec := "fnGroups", unfollowed := true, recurses := true, apart := false }
def FnGroupsSaid : Prop := fnGroupsRow.holds Try.pinned (OpenSpec.ofChange fnGroupsSpec)

/-- ITS FALSE NEIGHBOUR: 'it returns false'. Refute it at one input. -/
def fnGroupsWrong : ChangeSpec := { name := "fnGroups", fn := fun _ => fun
  | [d] => { results := [.lit (.bool false)], args := [d] }
  | _ => none }
def FnGroupsWrongFalsely : Prop := fnGroupsRow.holds Try.pinned (OpenSpec.ofChange fnGroupsWrong)

/-- 'laws.FnExactJoinSets': WHATEVER THE INPUT: true; the input reads as it did. -/
def fnExactJoinSetsSpec : ChangeSpec := { name := "fnExactJoinSets", fn := fun _ => fun
  | [d1, d2, d3] => { results := [.lit (.bool true)], args := [d1, d2, d3] }
  | _ => none }
def fnExactJoinSetsRow : OpenClaim := { program := "ythgmicingbjemaa", sum := "95c023a533943d9b186b9ae3beab93bed79837a23dadca4c0e27e10777a28906", func := "loop.example/g00160/laws.FnExactJoinSets", spec := "fnExactJoinSets", unfollowed := true, recurses := true, apart := false }
def FnExactJoinSetsSaid : Prop := fnExactJoinSetsRow.holds Try.pinned (OpenSpec.ofChange fnExactJoinSetsSpec)

/-- ITS FALSE NEIGHBOUR: 'it returns false'. Refute it at one input. -/
def fnExactJoinSetsWrong : ChangeSpec := { name := "fnExactJoinSets", fn := fun _ => fun
  | [d1, d2, d3] => { results := [.lit (.bool false)], args := [d1, d2, d3] }
  | _ => none }
def FnExactJoinSetsWrongFalsely : Prop := fnExactJoinSetsRow.holds Try.pinned (OpenSpec.ofChange fnExactJoinSetsWrong)

/-- 'laws.FnJoins': WHATEVER THE INPUT: true; the input reads as it did. -/
def fnJoinsSpec : ChangeSpec := { name := "fnJoins", fn := fun _ => fun
  | [d] => { results := [.lit (.bool true)], args := [d] }
  | _ => none }
def fnJoinsRow : OpenClaim := { program := "ythgmicingbjemaa", sum := "95c023a533943d9b186b9ae3beab93bed79837a23dadca4c0e27e10777a28906", func := "loop.example/g00160/laws.FnJoins", spec := "fnJoins", unfollowed := true, recurses := true, apart := false }
def FnJoinsSaid : Prop := fnJoinsRow.holds Try.pinned (OpenSpec.ofChange fnJoinsSpec)

/-- ITS FALSE NEIGHBOUR: 'it returns false'. Refute it at one input. -/
def fnJoinsWrong : ChangeSpec := { name := "fnJoins", fn := fun _ => fun
  | [d] => { results := [.lit (.bool false)], args := [d] }
  | _ => none }
def FnJoinsWrongFalsely : Prop := fnJoinsRow.holds Try.pinned (OpenSpec.ofChange fnJoinsWrong)

/- THE SECOND FORM. 'bulk': how many values and letters a reading holds, each counted each time it is reached (what is shared counts as often as it is met; a slice's spare places count too). A statement '..UptoSaid' is the law's where the arguments, and the package variables that the reading takes, are together of bulk at most 1048576: NARROWER than '..Said'. Prove '..Said' where nothing that the law and all that it calls make is longer than what came in: it says more and counts as full. Else prove '..UptoSaid'. A law counts once. -/
mutual
def uptoBulk {H : Type} : DataW H → Nat
  | .lit (.string bytes) => bytes.length + 1
  | .lit _ => 1
  | .nil => 1
  | .ptr d => uptoBulk d + 1
  | .slice elems spare => uptoBulkAll elems + uptoBulkAll spare + 1
  | .agg parts => uptoBulkAll parts + 1
  | .iface _ d => uptoBulk d + 1
  | .map entries => uptoBulkEntries entries + 1
  | .held _ => 1
def uptoBulkAll {H : Type} : List (DataW H) → Nat
  | [] => 0
  | d :: r => uptoBulk d + uptoBulkAll r
def uptoBulkEntries {H : Type} : List (Lit × DataW H) → Nat
  | [] => 0
  | x :: r => uptoBulkEntry x + uptoBulkEntries r
def uptoBulkEntry {H : Type} : Lit × DataW H → Nat
  | (.string bytes, d) => bytes.length + uptoBulk d + 1
  | (_, d) => uptoBulk d + 1
 end
def uptoSmall : (H : Type) → List (DataW H) → Bool := fun _ ds => decide (uptoBulkAll ds ≤ 1048576)
def OpenSpec.upto (s : _root_.Go.ChangeSpec) : _root_.Go.OpenSpec := { _root_.Go.OpenSpec.ofChange s with cond := some uptoSmall }

/-- 'laws.FnExactConsolidate', WHERE WHAT IT READS IS OF BULK AT MOST 1048576: true; the input reads as it did. -/
def fnExactConsolidateUptoRow : OpenClaim := { program := "ythgmicingbjemaa", sum := "95c023a533943d9b186b9ae3beab93bed79837a23dadca4c0e27e10777a28906", func := "loop.example/g00160/laws.FnExactConsolidate", spec := "fnExactConsolidate", unfollowed := true, recurses := true, apart := false, narrowed := true }
def FnExactConsolidateUptoSaid : Prop := fnExactConsolidateUptoRow.holds Try.pinned (OpenSpec.upto fnExactConsolidateSpec)

/-- 'laws.FnExactGroupSet', WHERE WHAT IT READS IS OF BULK AT MOST 1048576: true; the input reads as it did. -/
def fnExactGroupSetUptoRow : OpenClaim := { program := "ythgmicingbjemaa", sum := "95c023a533943d9b186b9ae3beab93bed79837a23dadca4c0e27e10777a28906", func := "loop.example/g00160/laws.FnExactGroupSet", spec := "fnExactGroupSet", unfollowed := true, recurses := true, apart := false, narrowed := true }
def FnExactGroupSetUptoSaid : Prop := fnExactGroupSetUptoRow.holds Try.pinned (OpenSpec.upto fnExactGroupSetSpec)

/-- 'laws.FnGrouped', WHERE WHAT IT READS IS OF BULK AT MOST 1048576: true; the input reads as it did. -/
def fnGroupedUptoRow : OpenClaim := { program := "ythgmicingbjemaa", sum := "95c023a533943d9b186b9ae3beab93bed79837a23dadca4c0e27e10777a28906", func := "loop.example/g00160/laws.FnGrouped", spec := "fnGrouped", unfollowed := true, recurses := true, apart := false, narrowed := true }
def FnGroupedUptoSaid : Prop := fnGroupedUptoRow.holds Try.pinned (OpenSpec.upto fnGroupedSpec)

/-- 'laws.FnExactProjectSet', WHERE WHAT IT READS IS OF BULK AT MOST 1048576: true; the input reads as it did. -/
def fnExactProjectSetUptoRow : OpenClaim := { program := "ythgmicingbjemaa", sum := "95c023a533943d9b186b9ae3beab93bed79837a23dadca4c0e27e10777a28906", func := "loop.example/g00160/laws.FnExactProjectSet", spec := "fnExactProjectSet", unfollowed := true, recurses := true, apart := false, narrowed := true }
def FnExactProjectSetUptoSaid : Prop := fnExactProjectSetUptoRow.holds Try.pinned (OpenSpec.upto fnExactProjectSetSpec)

/-- 'laws.FnExactAddSets', WHERE WHAT IT READS IS OF BULK AT MOST 1048576: true; the input reads as it did. -/
def fnExactAddSetsUptoRow : OpenClaim := { program := "ythgmicingbjemaa", sum := "95c023a533943d9b186b9ae3beab93bed79837a23dadca4c0e27e10777a28906", func := "loop.example/g00160/laws.FnExactAddSets", spec := "fnExactAddSets", unfollowed := true, recurses := true, apart := false, narrowed := true }
def FnExactAddSetsUptoSaid : Prop := fnExactAddSetsUptoRow.holds Try.pinned (OpenSpec.upto fnExactAddSetsSpec)

/-- 'laws.FnGroups', WHERE WHAT IT READS IS OF BULK AT MOST 1048576: true; the input reads as it did. -/
def fnGroupsUptoRow : OpenClaim := { program := "ythgmicingbjemaa", sum := "95c023a533943d9b186b9ae3beab93bed79837a23dadca4c0e27e10777a28906", func := "loop.example/g00160/laws.FnGroups", spec := "fnGroups", unfollowed := true, recurses := true, apart := false, narrowed := true }
def FnGroupsUptoSaid : Prop := fnGroupsUptoRow.holds Try.pinned (OpenSpec.upto fnGroupsSpec)

/-- 'laws.FnExactJoinSets', WHERE WHAT IT READS IS OF BULK AT MOST 1048576: true; the input reads as it did. -/
def fnExactJoinSetsUptoRow : OpenClaim := { program := "ythgmicingbjemaa", sum := "95c023a533943d9b186b9ae3beab93bed79837a23dadca4c0e27e10777a28906", func := "loop.example/g00160/laws.FnExactJoinSets", spec := "fnExactJoinSets", unfollowed := true, recurses := true, apart := false, narrowed := true }
def FnExactJoinSetsUptoSaid : Prop := fnExactJoinSetsUptoRow.holds Try.pinned (OpenSpec.upto fnExactJoinSetsSpec)

/-- 'laws.FnJoins', WHERE WHAT IT READS IS OF BULK AT MOST 1048576: true; the input reads as it did. -/
def fnJoinsUptoRow : OpenClaim := { program := "ythgmicingbjemaa", sum := "95c023a533943d9b186b9ae3beab93bed79837a23dadca4c0e27e10777a28906", func := "loop.example/g00160/laws.FnJoins", spec := "fnJoins", unfollowed := true, recurses := true, apart := false, narrowed := true }
def FnJoinsUptoSaid : Prop := fnJoinsUptoRow.holds Try.pinned (OpenSpec.upto fnJoinsSpec)

end Rows
end Go.Proofs.Ythgmicingbjemaa
