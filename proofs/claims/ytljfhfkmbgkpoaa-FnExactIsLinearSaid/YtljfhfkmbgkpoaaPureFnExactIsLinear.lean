/- The law FnExactIsLinear answers true for every whole number: program and reference agree on which kinds of nodes are linear. -/
import Derived.Test.YtljfhfkmbgkpoaaKit
import Derived.Test.YtljfhfkmbgkpoaaPFnExactIsLinearx1
namespace Go.Proofs.Ytljfhfkmbgkpoaa.Pure
open Go.RowKit Go.Proofs.Ytljfhfkmbgkpoaa.PFnExactIsLinear Go.Proofs.YtljfhfkmbgkpoaaW.PrintWords Go.Proofs.YtljfhfkmbgkpoaaW.PrintLast Go.Proofs.Ytljfhfkmbgkpoaa

theorem specIn_eq (a b c : Int) : spec_l1In.f a b c = some (decide (b ≤ a ∧ a ≤ c)) := by
  unfold spec_l1In.f
  by_cases h : a ≥ b
  · rw [if_pos h]; simp [show b ≤ a from h]
  · rw [if_neg h]; simp; intro h'; omega
theorem FnExactIsLinear : laws_FnExactIsLinear.Pure := by
  intro a h
  unfold laws_FnExactIsLinear.f spec_IsLinear.f impl_IsLinear.f
  rw [specIn_eq]
  simp only [Option.bind_some]
  by_cases h1 : 1 ≤ a ∧ a ≤ 5
  · have hc : a = 1 ∨ a = 2 ∨ a = 3 ∨ a = 4 ∨ a = 5 := by omega
    rcases hc with rfl | rfl | rfl | rfl | rfl <;> rfl
  · by_cases h2 : a = 12
    · subst h2; rfl
    · rw [if_neg (show ¬ a = 1 by omega), if_neg (show ¬ a = 2 by omega), if_neg (show ¬ a = 3 by omega), if_neg (show ¬ a = 4 by omega), if_neg (show ¬ a = 5 by omega), if_neg h2]
      simp [h1, h2]

end Go.Proofs.Ytljfhfkmbgkpoaa.Pure
