/- The law FnExactMulWeight answers true for every two whole numbers. -/
import Derived.Test.YtljfhfkmbgkpoaaKit
import Derived.Test.YtljfhfkmbgkpoaaPFnExactMulWeightx1
namespace Go.Proofs.Ytljfhfkmbgkpoaa.Pure
open Go.RowKit Go.Proofs.Ytljfhfkmbgkpoaa.PFnExactMulWeight Go.Proofs.YtljfhfkmbgkpoaaW.PrintWords Go.Proofs.YtljfhfkmbgkpoaaW.PrintLast Go.Proofs.Ytljfhfkmbgkpoaa
set_option linter.unusedSimpArgs false
set_option linter.unusedVariables false

theorem specIn_eq (a b c : Int) : spec_l1In.f a b c = some (decide (b ≤ a ∧ a ≤ c)) := by
  unfold spec_l1In.f
  by_cases h : a ≥ b
  · rw [if_pos h]; simp [show b ≤ a from h]
  · rw [if_neg h]; simp; intro h'; omega
theorem implIn_eq (a b c : Int) : impl_in.f a b c = some (decide (b ≤ a ∧ a ≤ c)) := by
  unfold impl_in.f
  by_cases h : a ≥ b
  · rw [if_pos h]; simp [show b ≤ a from h]
  · rw [if_neg h]; simp; intro h'; omega
def isW (x : Int) : Bool := decide (-1000000000000 ≤ x ∧ x ≤ 1000000000000)
theorem isW_iff {x : Int} : isW x = true ↔ -1000000000000 ≤ x ∧ x ≤ 1000000000000 := by simp [isW]
def addW (a b : Int) : Int × Int := if isW a = true ∧ isW b = true then (if isW (a + b) = true then (0, a + b) else (8, 0)) else (3, 0)
theorem addW_comm (a b : Int) : addW a b = addW b a := by
  unfold addW
  rw [Int.add_comm b a]; simp only [and_comm]
def mulP (a b : Int) : Int × Bool := if (a * b).natAbs ≤ 1000000000000 then (a * b, true) else (0, false)
theorem mulP_comm (a b : Int) : mulP a b = mulP b a := by
  unfold mulP
  rw [Int.mul_comm b a]
def mulW (a b : Int) : Int × Int := if isW a = true ∧ isW b = true then (if (mulP a b).2 = true then (0, (mulP a b).1) else (8, 0)) else (3, 0)
theorem mulW_comm (a b : Int) : mulW a b = mulW b a := by
  unfold mulW
  rw [mulP_comm b a]; simp only [and_comm]
theorem specWeight_eq (a : Int) : spec_l1Weight.f a = some (isW a) := by
  unfold spec_l1Weight.f
  rw [specIn_eq]; rfl
theorem implWeight_eq (a : Int) : impl_isWeight.f a = some (isW a) := by
  unfold impl_isWeight.f
  rw [implIn_eq]; rfl
theorem mul_gt {x y : Int} (hx : 0 ≤ x) (hy : 0 < y) : (x > (1000000000000 : Int) / y) ↔ ¬ (x * y).natAbs ≤ 1000000000000 := by
  have h0 : 0 ≤ x * y := Int.mul_nonneg hx (Int.le_of_lt hy)
  have h1 : ((1000000000000 : Int) / y < x) ↔ 1000000000000 < x * y := Int.ediv_lt_iff_lt_mul hy
  constructor
  · intro h
    have := h1.1 h
    omega
  · intro h
    exact h1.2 (by omega)
theorem wrap_quo {y : Int} (hy : 0 < y) : wrap64 ((1000000000000 : Int) / y) = (1000000000000 : Int) / y := by
  have h0 : 0 ≤ (1000000000000 : Int) / y := Int.ediv_nonneg (by omega) (by omega)
  have h1 : (1000000000000 : Int) / y ≤ 1000000000000 := Int.ediv_le_self _ (by omega)
  exact Kit.w64 (by omega) (by omega)
theorem wrap_tquo {y : Int} (hy : 0 < y) : wrap64 (Int.tdiv (1000000000000 : Int) y) = (1000000000000 : Int) / y := by
  rw [Int.tdiv_eq_ediv_of_nonneg (by omega)]
  exact wrap_quo hy
theorem wrap_mul {a b : Int} (h : (a * b).natAbs ≤ 1000000000000) : wrap64 (a * b) = a * b := Kit.w64 (by omega) (by omega)
theorem abs_mul (a b : Int) : ((a.natAbs : Int) * (b.natAbs : Int)).natAbs = (a * b).natAbs := by
  rw [Int.natAbs_mul, Int.natAbs_mul]; simp
theorem specMulP_ev (a b : Int) (ha : isW a = true) (hb : isW b = true) : Ev (fun k => spec_l1Mul.f k a b) (mulP a b) := by
  have ha' := isW_iff.1 ha
  have hb' := isW_iff.1 hb
  refine Kit.Ev.up (Kit.Ev.up ?_)
  unfold spec_l1Mul.f
  simp only [spec_l1Mul.j0, spec_l1Mul.j1]
  by_cases a0 : a = 0
  · subst a0; exact Kit.Ev.const (by simp [mulP])
  by_cases b0 : b = 0
  · subst b0; exact Kit.Ev.const (by simp [mulP, a0])
  have hbe : (b == 0) = false := by simp [b0]
  simp only [a0, if_false, hbe, Bool.false_eq_true]
  rw [Kit.w64 (x := -a) (by omega) (by omega), Kit.w64 (x := -b) (by omega) (by omega)]
  have key : ∀ x y : Int, 0 ≤ x → 0 < y → x = (a.natAbs : Int) → y = (b.natAbs : Int) → (if x > wrap64 (Int.tdiv (1000000000000 : Int) y) then (some ((0 : Int), false)) else (some (wrap64 (a * b), true))) = some (mulP a b) := by
    intro x y hx hy ex ey
    rw [wrap_tquo hy]
    unfold mulP
    by_cases h : x > (1000000000000 : Int) / y
    · rw [if_pos h, if_neg]
      have := (mul_gt hx hy).1 h
      rwa [ex, ey, abs_mul] at this
    · have h2 : (a * b).natAbs ≤ 1000000000000 := by
        have := mt (mul_gt hx hy).2 h
        rw [ex, ey, abs_mul] at this
        omega
      rw [if_neg h, if_pos h2, wrap_mul h2]
  refine Kit.Ev.ite (fun ha2 => ?_) (fun ha2 => ?_) <;> refine Kit.Ev.ite (fun hb2 => ?_) (fun hb2 => ?_)
  · exact Kit.Ev.neg (by omega) (Kit.Ev.const (key (-a) (-b) (by omega) (by omega) (by omega) (by omega)))
  · exact Kit.Ev.neg (by omega) (Kit.Ev.const (key (-a) b (by omega) (by omega) (by omega) (by omega)))
  · exact Kit.Ev.neg (by omega) (Kit.Ev.const (key a (-b) (by omega) (by omega) (by omega) (by omega)))
  · exact Kit.Ev.neg (by omega) (Kit.Ev.const (key a b (by omega) (by omega) (by omega) (by omega)))
theorem implMulP_ev (a b : Int) (ha : isW a = true) (hb : isW b = true) : Ev (fun k => impl_mulWeight.f k a b) (mulP a b) := by
  have ha' := isW_iff.1 ha
  have hb' := isW_iff.1 hb
  refine Kit.Ev.up ?_
  unfold impl_mulWeight.f
  simp only [impl_mulWeight.j0]
  by_cases a0 : a = 0
  · subst a0; exact Kit.Ev.const (by simp [mulP])
  by_cases b0 : b = 0
  · subst b0; exact Kit.Ev.const (by simp [mulP, a0])
  have hbe : (b == 0) = false := by simp [b0]
  simp only [a0, if_false, hbe, Bool.false_eq_true]
  rw [Kit.w64 (x := -a) (by omega) (by omega), Kit.w64 (x := -b) (by omega) (by omega)]
  have ea : mx a (-a) = (a.natAbs : Int) := by unfold mx; split <;> omega
  have eb : mx b (-b) = (b.natAbs : Int) := by unfold mx; split <;> omega
  rw [ea, eb]
  have hy : (0 : Int) < (b.natAbs : Int) := by omega
  simp only [wrap_tquo hy, wrap_quo hy]
  refine Kit.Ev.neg (by omega) (Kit.Ev.const ?_)
  unfold mulP
  by_cases h : (a.natAbs : Int) > (1000000000000 : Int) / (b.natAbs : Int)
  · rw [if_pos h, if_neg]
    have := (mul_gt (by omega) hy).1 h
    rwa [abs_mul] at this
  · have h2 : (a * b).natAbs ≤ 1000000000000 := by
      have := mt (mul_gt (by omega) hy).2 h
      rw [abs_mul] at this
      omega
    rw [if_neg h, if_pos h2, wrap_mul h2]
theorem specMul_ev (a b : Int) : Ev (fun k => spec_MulWeight.f k a b) (mulW a b) := by
  refine Kit.Ev.up ?_
  unfold spec_MulWeight.f
  simp only [specWeight_eq, Option.bind_some, spec_MulWeight.j0]
  by_cases ha : isW a = true
  · by_cases hb : isW b = true
    · simp only [ha, hb, if_true, Bool.not_true, Bool.false_eq_true, if_false]
      refine Kit.Ev.then (specMulP_ev a b ha hb) (Kit.Ev.const ?_)
      by_cases hm : (mulP a b).2 = true <;> simp [mulW, ha, hb, hm]
    · exact Ev.congr (f := fun _ => some (3, 0)) (fun k => by simp [ha, hb]) (Kit.Ev.const (by simp [mulW, ha, hb]))
  · exact Ev.congr (f := fun _ => some (3, 0)) (fun k => by simp [ha]) (Kit.Ev.const (by simp [mulW, ha]))
theorem implMul_ev (a b : Int) : Ev (fun k => impl_MulWeight.f k a b) (mulW a b) := by
  refine Kit.Ev.up ?_
  unfold impl_MulWeight.f
  simp only [implWeight_eq, Option.bind_some, impl_MulWeight.j0]
  by_cases ha : isW a = true
  · by_cases hb : isW b = true
    · simp only [ha, hb, if_true, Bool.not_true, Bool.false_eq_true, if_false]
      refine Kit.Ev.then (implMulP_ev a b ha hb) (Kit.Ev.const ?_)
      by_cases hm : (mulP a b).2 = true <;> simp [mulW, ha, hb, hm]
    · exact Ev.congr (f := fun _ => some (3, 0)) (fun k => by simp [ha, hb]) (Kit.Ev.const (by simp [mulW, ha, hb]))
  · exact Ev.congr (f := fun _ => some (3, 0)) (fun k => by simp [ha]) (Kit.Ev.const (by simp [mulW, ha]))
theorem eqIntResult_eq (a b c d : Int) : laws_eqIntResult.f a b c d = some (decide (a = c ∧ b = d)) := by
  unfold laws_eqIntResult.f
  by_cases h : a = c <;> by_cases h' : b = d <;> simp [h, h']
theorem FnExactMulWeight : laws_FnExactMulWeight.Pure := by
  intro a b _ _
  refine Kit.Ev.ex ?_
  unfold laws_FnExactMulWeight.f
  refine Kit.Ev.then (specMul_ev a b) (Kit.Ev.then (implMul_ev a b) ?_)
  rw [eqIntResult_eq]
  exact Kit.Ev.const (by simp)

end Go.Proofs.Ytljfhfkmbgkpoaa.Pure
