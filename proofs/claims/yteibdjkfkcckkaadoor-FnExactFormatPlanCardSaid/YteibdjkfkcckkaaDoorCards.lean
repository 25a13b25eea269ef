/-
  DERIVED. GIVEN WITH THE SEED: THE CARDS: each row of YteibdjkfkcckkaaDoorRows.lean that lists a variable, with what it lists TIED to the program's text (the seventh form; the later family's looks); each row that meets fmt, with fmt's text TOLD by the authors' own Lean function (tested against real Go, not proved from fmt's source: count such statements apart). THE CARD IS WHAT COUNTS. Prove the row's statement (the work); the ties are given (YteibdjkfkcckkaaDoorTie.lean); close each card by the builder's one call (the guide's Derived/Test/ToyasCard.lean, 'card_holds'). Laid BY PROGRAM, IN A SANDBOX (cutbox-door.mjs). By AI agents, Wed Nov 11 2026. No macro, syntax, notation, axiom, sorry.
-/
import Derived.Test.YteibdjkfkcckkaaDoorRows
import GoSem.ClaimSeven
namespace Go.Proofs.YteibdjkfkcckkaaDoor
namespace Rows

/-- THE TIED CARD OF 'laws.FnExactFormatPlan'. -/
def fnExactFormatPlanCard : Claim7 := { stood := { row := fnExactFormatPlanRow, standIns := [], harness := (true, "b6b8be8a0b0780e80028d1d0c6d6665161b1c0be1af73ae1c47fabbcdc45373e"), looks := false }, kinds := [], alts := [], laidByText := true, laidKinds := [.data, .data, .data, .data, .pinned], laidTests := true, laidLooks := .later }
def FnExactFormatPlanCardSaid : Prop := Claim7.holds Tryd.pinned (.plain (OpenSpec.ofChange fnExactFormatPlanSpec)) fnExactFormatPlanCard

/-- THE SECOND FORM's CARD OF 'laws.FnExactFormatPlan'. -/
def fnExactFormatPlanUptoCard : Claim7 := { stood := { row := fnExactFormatPlanUptoRow, standIns := [], harness := (true, "b6b8be8a0b0780e80028d1d0c6d6665161b1c0be1af73ae1c47fabbcdc45373e"), looks := false }, kinds := [], alts := [], laidByText := true, laidKinds := [.data, .data, .data, .data, .pinned], laidTests := true, laidLooks := .later }
def FnExactFormatPlanUptoCardSaid : Prop := Claim7.holds Tryd.pinned (.plain (OpenSpec.upto fnExactFormatPlanSpec)) fnExactFormatPlanUptoCard
end Rows
end Go.Proofs.YteibdjkfkcckkaaDoor
