/- The law FnExactAddWeight answers true for every two whole numbers. -/
import Derived.Test.YtljfhfkmbgkpoaaKit
import Derived.Test.YtljfhfkmbgkpoaaPFnExactAddWeightx1
namespace Go.Proofs.Ytljfhfkmbgkpoaa.Pure
open Go.RowKit Go.Proofs.Ytljfhfkmbgkpoaa.PFnExactAddWeight Go.Proofs.YtljfhfkmbgkpoaaW.PrintWords Go.Proofs.YtljfhfkmbgkpoaaW.PrintLast Go.Proofs.Ytljfhfkmbgkpoaa

theorem specIn_eq (a b c : Int) : spec_l1In.f a b c = some (decide (b ≤ a ∧ a ≤ c)) := by
  unfold spec_l1In.f
  by_cases h : a ≥ b
  · rw [if_pos h]; simp [show b ≤ a from h]
  · rw [if_neg h]; simp; intro h'; omega
theorem implIn_eq (a b c : Int) : impl_in.f a b c = some (decide (b ≤ a ∧ a ≤ c)) := by
  unfold impl_in.f
  by_cases h : a ≥ b
  · rw [if_pos h]; simp [show b ≤ a from h]
  · rw [if_neg h]; simp; intro h'; omega
def isW (x : Int) : Bool := decide (-1000000000000 ≤ x ∧ x ≤ 1000000000000)
theorem isW_iff {x : Int} : isW x = true ↔ -1000000000000 ≤ x ∧ x ≤ 1000000000000 := by simp [isW]
def addW (a b : Int) : Int × Int := if isW a = true ∧ isW b = true then (if isW (a + b) = true then (0, a + b) else (8, 0)) else (3, 0)
theorem addW_comm (a b : Int) : addW a b = addW b a := by
  unfold addW
  rw [Int.add_comm b a]; simp only [and_comm]
def mulP (a b : Int) : Int × Bool := if (a * b).natAbs ≤ 1000000000000 then (a * b, true) else (0, false)
theorem mulP_comm (a b : Int) : mulP a b = mulP b a := by
  unfold mulP
  rw [Int.mul_comm b a]
def mulW (a b : Int) : Int × Int := if isW a = true ∧ isW b = true then (if (mulP a b).2 = true then (0, (mulP a b).1) else (8, 0)) else (3, 0)
theorem mulW_comm (a b : Int) : mulW a b = mulW b a := by
  unfold mulW
  rw [mulP_comm b a]; simp only [and_comm]
theorem specWeight_eq (a : Int) : spec_l1Weight.f a = some (isW a) := by
  unfold spec_l1Weight.f
  rw [specIn_eq]; rfl
theorem implWeight_eq (a : Int) : impl_isWeight.f a = some (isW a) := by
  unfold impl_isWeight.f
  rw [implIn_eq]; rfl
theorem specAdd_ev (a b : Int) : Ev (fun k => spec_AddWeight.f k a b) (addW a b) := by
  refine Kit.Ev.up ?_
  unfold spec_AddWeight.f
  simp only [specWeight_eq, Option.bind_some, spec_AddWeight.j0]
  by_cases ha : isW a = true
  · by_cases hb : isW b = true
    · have := isW_iff.1 ha
      have := isW_iff.1 hb
      rw [Kit.w64 (by omega) (by omega)]
      by_cases hc : isW (a + b) = true <;> exact Kit.Ev.const (by simp [addW, ha, hb, hc])
    · exact Kit.Ev.const (by simp [addW, ha, hb])
  · exact Kit.Ev.const (by simp [addW, ha])
theorem implAdd_ev (a b : Int) : Ev (fun k => impl_AddWeight.f k a b) (addW a b) := by
  refine Kit.Ev.up ?_
  unfold impl_AddWeight.f
  simp only [implWeight_eq, Option.bind_some, impl_AddWeight.j0]
  by_cases ha : isW a = true
  · by_cases hb : isW b = true
    · have := isW_iff.1 ha
      have := isW_iff.1 hb
      rw [Kit.w64 (by omega) (by omega)]
      by_cases hc : isW (a + b) = true <;> exact Kit.Ev.const (by simp [addW, ha, hb, hc])
    · exact Kit.Ev.const (by simp [addW, ha, hb])
  · exact Kit.Ev.const (by simp [addW, ha])
theorem eqIntResult_eq (a b c d : Int) : laws_eqIntResult.f a b c d = some (decide (a = c ∧ b = d)) := by
  unfold laws_eqIntResult.f
  by_cases h : a = c <;> by_cases h' : b = d <;> simp [h, h']
theorem FnExactAddWeight : laws_FnExactAddWeight.Pure := by
  intro a b _ _
  refine Kit.Ev.ex ?_
  unfold laws_FnExactAddWeight.f
  refine Kit.Ev.then (specAdd_ev a b) (Kit.Ev.then (implAdd_ev a b) ?_)
  rw [eqIntResult_eq]
  exact Kit.Ev.const (by simp)

end Go.Proofs.Ytljfhfkmbgkpoaa.Pure
