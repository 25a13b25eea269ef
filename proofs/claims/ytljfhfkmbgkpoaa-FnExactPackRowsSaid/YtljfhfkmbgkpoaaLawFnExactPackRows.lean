-- Written by fprint, a program of this session, out of Lean's own print of the translation. Lean checks it.
import Derived.Test.YtljfhfkmbgkpoaaRows
import Derived.Test.YtljfhfkmbgkpoaaVFnExactPackRows
import Derived.Test.YtljfhfkmbgkpoaaPureFnExactPackRows
import Derived.Test.YtljfhfkmbgkpoaaOpen
import Derived.WalkKit
import Derived.ProofKit
import Derived.OpenShut
import Derived.ShutString
import Derived.ChangeOld
import Derived.Below
import Derived.SizedLaws
import Derived.Test.YtljfhfkmbgkpoaaWSized
namespace Go.Proofs.Ytljfhfkmbgkpoaa.fnExactPackRows
open Go.ChangeShapes Go.WideShapes Go.ChangeAt Go.RowKit
open Go.ChangeMaps (open_string shut_string)
open Go.Proofs.Ytljfhfkmbgkpoaa.PFnExactPackRows Go.Proofs.YtljfhfkmbgkpoaaW.PrintWords
set_option linter.unusedVariables false
theorem own : ownKnob Try.prog.godebug = none := by kernel_rfl
theorem laidOut : laidOutB Try.prog = true := by kernel_rfl
set_option maxRecDepth 100000 in
theorem lifted (os : Os) (started : os.Started) (H : Type) (enc : TypeId × Value → H) :
    ReturnsInHanded {} Try.checked os 13 .any (Rows.fnExactPackRowsSpec.pre6 enc Try.prog Try.f13 Rows.fnExactPackRowsRow.domain false) (Rows.fnExactPackRowsSpec.post enc Try.prog Try.f13 false true false false) := by
  refine returnsInHanded_of_change_sized (C := Try.checked) own started (by kernel_rfl) Try.func13
    (ChangeSpec.witness6 (enc := enc) (C := Try.checked) false ⟨#[], #[.slice none 0 0], []⟩ 8 (by kernel_rfl) (by kernel_rfl) (by kernel_rfl) (by kernel_rfl)) ?_
  intro W base args ds gs before hval0 hW hcnd hsz0 _
  have hsz : (DataW.weightsEach Try.prog (Try.f13.params.toList ++ Rows.fnExactPackRowsSpec.plain.varTypes Try.prog) (ds ++ gs)).all (· ≤ reachBytes) = true := hsz0
  have hval : ∀ (j : Nat) t v, Try.f13.params[j]? = some t → args[j]? = some v → Value.okWide Try.prog W .any base t v := hval0
  have hW' := hW
  obtain ⟨p, q, hA0, hV, rfl, hfz, hnd⟩ := hW
  have hA : DataW.TrodAll enc Try.prog W 0 (fun _ => true) true Try.f13.params.toList args.toList ds p := hA0
  rw [Try.params13] at hA hval hsz
  obtain ⟨v0, vs0, d0, ds0, p0, q0, hargs, rfl, rfl, h0, r0⟩ := trodAll_cons hA
  obtain ⟨rfl, rfl, rfl⟩ := trodAll_nil r0
  obtain rfl : args = #[v0] := by cases args; simp_all
  obtain ⟨rfl, rfl⟩ := trodVars_none hV
  have k0 := h0
  have lt0 : ∀ x ∈ p0, x.block < W.heap.size := by obtain ⟨m, hm⟩ := k0; exact DataW.trod_lt m _ _ _ hm
  obtain ⟨b0, len0, cap0, rfl⟩ := okWide_slice Try.underlying40 (hval 0 40 v0 rfl rfl)
  have y0 : len0 * 24 ≤ 140737488351232 := by
    obtain ⟨fuel, hf⟩ := h0
    rcases Deep.open_slice Try.underlying40 hf with ⟨hcs, _⟩ | ⟨a, len, cap, m, n, D, Pl, hcs, _, hl, hm, hmm, hx, _⟩
    · simp [Value.cells] at hcs
      obtain ⟨rfl, rfl, rfl⟩ := hcs
      simp
    · simp [Value.cells] at hcs
      obtain ⟨rfl, rfl, rfl⟩ := hcs
      obtain ⟨hx, _⟩ := Prod.mk.inj hx
      subst hx
      have z := sized_slice hsz (j := 0) (t := 40) rfl rfl Try.underlying40
      rw [show Try.prog.bytesOf 24 = 24 from by kernel_rfl] at z
      simp only [List.length_map, List.length_range, reachBytes] at z
      have := Nat.mul_le_mul_right 24 (Nat.le_add_right len0 (m - len0))
      omega
  obtain ⟨l0, hK0, g0⟩ : ∃ l, (Kd.slice 24 (Kd.slice 2 (Kd.int .i64))).K W l [.slice b0 len0 cap0] ∧ (fun l : List (List Int) => l.length ≤ maxLen ∧ ∀ y ∈ l, (fun l : List Int => l.length ≤ maxLen ∧ ∀ y ∈ l, (fun x : Int => (Lit.int .i64 x).wf = true) y) y) l := by
    obtain ⟨fuel, hf⟩ := h0
    exact (Opened.opens_slice ([] : List Int) (t := 40) (e := 24) Try.underlying40 (by kernel_rfl) (Opened.opens_slice (0 : Int) (t := 24) (e := 2) Try.underlying24 (by kernel_rfl) (Opened.opens_int (t := 2) Try.underlying2))) H enc W fuel _ _ hf
  obtain ⟨A0_, c0_, e0_, hc0, hr0⟩ := hK0
  obtain ⟨rfl, rfl, rfl⟩ : b0 = A0_ ∧ len0 = l0.length ∧ cap0 = c0_ := by simpa using e0_
  clear hA0 hval0 hsz0 hsz
  obtain ⟨k, h⟩ := Pure.FnExactPackRows l0 g0 y0
  refine (laws_FnExactPackRows.calls k _ _ l0 true W hr0 hc0 h).mono fun e W' ⟨he, hd⟩ => ?_
  have bel : Below W.heap.size W W' := hd
  subst he
  exact ⟨_, rfl, _, _, _, [], _, [], hW', trodAll_mk1 (shut_bool Try.underlying4 _), (trodAll_cons_mk (Below.trod laidOut (by kernel_rfl) (of_decide_eq_true (by kernel_rfl)) k0 bel lt0) trodAll_mk0), rfl, bel.frame _, fun h => by cases h⟩
theorem over : Rows.fnExactPackRowsRow.holds Try.pinned (OpenSpec.ofChange Rows.fnExactPackRowsSpec) :=
  OpenClaim.holds_of_wide 13 Try.f13 rfl rfl rfl rfl rfl rfl rfl ⟨rfl, rfl, rfl, rfl, rfl⟩ rfl rfl rfl rfl rfl (by kernel_rfl) Try.func13 (by kernel_rfl)
    (of_decide_eq_true (by kernel_rfl)) (by unfold Func.isWrapper; first | (rw [if_pos (by decide +kernel)]; kernel_rfl) | (rw [if_neg (by decide +kernel)]; exact ⟨rfl, rfl⟩))
    (fun os started H enc _ => lifted os started H enc)
theorem proved : Rows.FnExactPackRowsSaid := over
#print axioms proved
end Go.Proofs.Ytljfhfkmbgkpoaa.fnExactPackRows
namespace Go.Proofs.Ytljfhfkmbgkpoaa
/-- The row, under a short name, for the claim. -/
theorem fnExactPackRows_holds : Rows.FnExactPackRowsSaid := fnExactPackRows.proved
end Go.Proofs.Ytljfhfkmbgkpoaa
