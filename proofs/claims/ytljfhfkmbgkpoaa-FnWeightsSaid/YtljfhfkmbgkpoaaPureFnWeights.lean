/- The law FnWeights answers true for every list of bytes: sums and products of weights do not hang on their order, and products go over sums. -/
import Derived.Test.YtljfhfkmbgkpoaaKit
import Derived.Test.YtljfhfkmbgkpoaaPFnWeightsx4
namespace Go.Proofs.Ytljfhfkmbgkpoaa.Pure
open Go.RowKit Go.Proofs.Ytljfhfkmbgkpoaa.PFnWeights Go.Proofs.YtljfhfkmbgkpoaaW.PrintWords Go.Proofs.YtljfhfkmbgkpoaaW.PrintLast Go.Proofs.Ytljfhfkmbgkpoaa
set_option linter.unusedSimpArgs false
set_option linter.unusedVariables false

theorem specIn_eq (a b c : Int) : spec_l1In.f a b c = some (decide (b ≤ a ∧ a ≤ c)) := by
  unfold spec_l1In.f
  by_cases h : a ≥ b
  · rw [if_pos h]; simp [show b ≤ a from h]
  · rw [if_neg h]; simp; intro h'; omega
theorem implIn_eq (a b c : Int) : impl_in.f a b c = some (decide (b ≤ a ∧ a ≤ c)) := by
  unfold impl_in.f
  by_cases h : a ≥ b
  · rw [if_pos h]; simp [show b ≤ a from h]
  · rw [if_neg h]; simp; intro h'; omega
def isW (x : Int) : Bool := decide (-1000000000000 ≤ x ∧ x ≤ 1000000000000)
theorem isW_iff {x : Int} : isW x = true ↔ -1000000000000 ≤ x ∧ x ≤ 1000000000000 := by simp [isW]
def addW (a b : Int) : Int × Int := if isW a = true ∧ isW b = true then (if isW (a + b) = true then (0, a + b) else (8, 0)) else (3, 0)
theorem addW_comm (a b : Int) : addW a b = addW b a := by
  unfold addW
  rw [Int.add_comm b a]; simp only [and_comm]
def mulP (a b : Int) : Int × Bool := if (a * b).natAbs ≤ 1000000000000 then (a * b, true) else (0, false)
theorem mulP_comm (a b : Int) : mulP a b = mulP b a := by
  unfold mulP
  rw [Int.mul_comm b a]
def mulW (a b : Int) : Int × Int := if isW a = true ∧ isW b = true then (if (mulP a b).2 = true then (0, (mulP a b).1) else (8, 0)) else (3, 0)
theorem mulW_comm (a b : Int) : mulW a b = mulW b a := by
  unfold mulW
  rw [mulP_comm b a]; simp only [and_comm]
theorem specWeight_eq (a : Int) : spec_l1Weight.f a = some (isW a) := by
  unfold spec_l1Weight.f
  rw [specIn_eq]; rfl
theorem implWeight_eq (a : Int) : impl_isWeight.f a = some (isW a) := by
  unfold impl_isWeight.f
  rw [implIn_eq]; rfl
theorem specAdd_ev (a b : Int) : Ev (fun k => spec_AddWeight.f k a b) (addW a b) := by
  refine Kit.Ev.up ?_
  unfold spec_AddWeight.f
  simp only [specWeight_eq, Option.bind_some, spec_AddWeight.j0]
  by_cases ha : isW a = true
  · by_cases hb : isW b = true
    · have := isW_iff.1 ha
      have := isW_iff.1 hb
      rw [Kit.w64 (by omega) (by omega)]
      by_cases hc : isW (a + b) = true <;> exact Kit.Ev.const (by simp [addW, ha, hb, hc])
    · exact Kit.Ev.const (by simp [addW, ha, hb])
  · exact Kit.Ev.const (by simp [addW, ha])
theorem implAdd_ev (a b : Int) : Ev (fun k => impl_AddWeight.f k a b) (addW a b) := by
  refine Kit.Ev.up ?_
  unfold impl_AddWeight.f
  simp only [implWeight_eq, Option.bind_some, impl_AddWeight.j0]
  by_cases ha : isW a = true
  · by_cases hb : isW b = true
    · have := isW_iff.1 ha
      have := isW_iff.1 hb
      rw [Kit.w64 (by omega) (by omega)]
      by_cases hc : isW (a + b) = true <;> exact Kit.Ev.const (by simp [addW, ha, hb, hc])
    · exact Kit.Ev.const (by simp [addW, ha, hb])
  · exact Kit.Ev.const (by simp [addW, ha])
theorem mul_gt {x y : Int} (hx : 0 ≤ x) (hy : 0 < y) : (x > (1000000000000 : Int) / y) ↔ ¬ (x * y).natAbs ≤ 1000000000000 := by
  have h0 : 0 ≤ x * y := Int.mul_nonneg hx (Int.le_of_lt hy)
  have h1 : ((1000000000000 : Int) / y < x) ↔ 1000000000000 < x * y := Int.ediv_lt_iff_lt_mul hy
  constructor
  · intro h
    have := h1.1 h
    omega
  · intro h
    exact h1.2 (by omega)
theorem wrap_quo {y : Int} (hy : 0 < y) : wrap64 ((1000000000000 : Int) / y) = (1000000000000 : Int) / y := by
  have h0 : 0 ≤ (1000000000000 : Int) / y := Int.ediv_nonneg (by omega) (by omega)
  have h1 : (1000000000000 : Int) / y ≤ 1000000000000 := Int.ediv_le_self _ (by omega)
  exact Kit.w64 (by omega) (by omega)
theorem wrap_tquo {y : Int} (hy : 0 < y) : wrap64 (Int.tdiv (1000000000000 : Int) y) = (1000000000000 : Int) / y := by
  rw [Int.tdiv_eq_ediv_of_nonneg (by omega)]
  exact wrap_quo hy
theorem wrap_mul {a b : Int} (h : (a * b).natAbs ≤ 1000000000000) : wrap64 (a * b) = a * b := Kit.w64 (by omega) (by omega)
theorem abs_mul (a b : Int) : ((a.natAbs : Int) * (b.natAbs : Int)).natAbs = (a * b).natAbs := by
  rw [Int.natAbs_mul, Int.natAbs_mul]; simp
theorem specMulP_ev (a b : Int) (ha : isW a = true) (hb : isW b = true) : Ev (fun k => spec_l1Mul.f k a b) (mulP a b) := by
  have ha' := isW_iff.1 ha
  have hb' := isW_iff.1 hb
  refine Kit.Ev.up (Kit.Ev.up ?_)
  unfold spec_l1Mul.f
  simp only [spec_l1Mul.j0, spec_l1Mul.j1]
  by_cases a0 : a = 0
  · subst a0; exact Kit.Ev.const (by simp [mulP])
  by_cases b0 : b = 0
  · subst b0; exact Kit.Ev.const (by simp [mulP, a0])
  have hbe : (b == 0) = false := by simp [b0]
  simp only [a0, if_false, hbe, Bool.false_eq_true]
  rw [Kit.w64 (x := -a) (by omega) (by omega), Kit.w64 (x := -b) (by omega) (by omega)]
  have key : ∀ x y : Int, 0 ≤ x → 0 < y → x = (a.natAbs : Int) → y = (b.natAbs : Int) → (if x > wrap64 (Int.tdiv (1000000000000 : Int) y) then (some ((0 : Int), false)) else (some (wrap64 (a * b), true))) = some (mulP a b) := by
    intro x y hx hy ex ey
    rw [wrap_tquo hy]
    unfold mulP
    by_cases h : x > (1000000000000 : Int) / y
    · rw [if_pos h, if_neg]
      have := (mul_gt hx hy).1 h
      rwa [ex, ey, abs_mul] at this
    · have h2 : (a * b).natAbs ≤ 1000000000000 := by
        have := mt (mul_gt hx hy).2 h
        rw [ex, ey, abs_mul] at this
        omega
      rw [if_neg h, if_pos h2, wrap_mul h2]
  refine Kit.Ev.ite (fun ha2 => ?_) (fun ha2 => ?_) <;> refine Kit.Ev.ite (fun hb2 => ?_) (fun hb2 => ?_)
  · exact Kit.Ev.neg (by omega) (Kit.Ev.const (key (-a) (-b) (by omega) (by omega) (by omega) (by omega)))
  · exact Kit.Ev.neg (by omega) (Kit.Ev.const (key (-a) b (by omega) (by omega) (by omega) (by omega)))
  · exact Kit.Ev.neg (by omega) (Kit.Ev.const (key a (-b) (by omega) (by omega) (by omega) (by omega)))
  · exact Kit.Ev.neg (by omega) (Kit.Ev.const (key a b (by omega) (by omega) (by omega) (by omega)))
theorem implMulP_ev (a b : Int) (ha : isW a = true) (hb : isW b = true) : Ev (fun k => impl_mulWeight.f k a b) (mulP a b) := by
  have ha' := isW_iff.1 ha
  have hb' := isW_iff.1 hb
  refine Kit.Ev.up ?_
  unfold impl_mulWeight.f
  simp only [impl_mulWeight.j0]
  by_cases a0 : a = 0
  · subst a0; exact Kit.Ev.const (by simp [mulP])
  by_cases b0 : b = 0
  · subst b0; exact Kit.Ev.const (by simp [mulP, a0])
  have hbe : (b == 0) = false := by simp [b0]
  simp only [a0, if_false, hbe, Bool.false_eq_true]
  rw [Kit.w64 (x := -a) (by omega) (by omega), Kit.w64 (x := -b) (by omega) (by omega)]
  have ea : mx a (-a) = (a.natAbs : Int) := by unfold mx; split <;> omega
  have eb : mx b (-b) = (b.natAbs : Int) := by unfold mx; split <;> omega
  rw [ea, eb]
  have hy : (0 : Int) < (b.natAbs : Int) := by omega
  simp only [wrap_tquo hy, wrap_quo hy]
  refine Kit.Ev.neg (by omega) (Kit.Ev.const ?_)
  unfold mulP
  by_cases h : (a.natAbs : Int) > (1000000000000 : Int) / (b.natAbs : Int)
  · rw [if_pos h, if_neg]
    have := (mul_gt (by omega) hy).1 h
    rwa [abs_mul] at this
  · have h2 : (a * b).natAbs ≤ 1000000000000 := by
      have := mt (mul_gt (by omega) hy).2 h
      rw [abs_mul] at this
      omega
    rw [if_neg h, if_pos h2, wrap_mul h2]
theorem specMul_ev (a b : Int) : Ev (fun k => spec_MulWeight.f k a b) (mulW a b) := by
  refine Kit.Ev.up ?_
  unfold spec_MulWeight.f
  simp only [specWeight_eq, Option.bind_some, spec_MulWeight.j0]
  by_cases ha : isW a = true
  · by_cases hb : isW b = true
    · simp only [ha, hb, if_true, Bool.not_true, Bool.false_eq_true, if_false]
      refine Kit.Ev.then (specMulP_ev a b ha hb) (Kit.Ev.const ?_)
      by_cases hm : (mulP a b).2 = true <;> simp [mulW, ha, hb, hm]
    · exact Ev.congr (f := fun _ => some (3, 0)) (fun k => by simp [ha, hb]) (Kit.Ev.const (by simp [mulW, ha, hb]))
  · exact Ev.congr (f := fun _ => some (3, 0)) (fun k => by simp [ha]) (Kit.Ev.const (by simp [mulW, ha]))
theorem implMul_ev (a b : Int) : Ev (fun k => impl_MulWeight.f k a b) (mulW a b) := by
  refine Kit.Ev.up ?_
  unfold impl_MulWeight.f
  simp only [implWeight_eq, Option.bind_some, impl_MulWeight.j0]
  by_cases ha : isW a = true
  · by_cases hb : isW b = true
    · simp only [ha, hb, if_true, Bool.not_true, Bool.false_eq_true, if_false]
      refine Kit.Ev.then (implMulP_ev a b ha hb) (Kit.Ev.const ?_)
      by_cases hm : (mulP a b).2 = true <;> simp [mulW, ha, hb, hm]
    · exact Ev.congr (f := fun _ => some (3, 0)) (fun k => by simp [ha, hb]) (Kit.Ev.const (by simp [mulW, ha, hb]))
  · exact Ev.congr (f := fun _ => some (3, 0)) (fun k => by simp [ha]) (Kit.Ev.const (by simp [mulW, ha]))
def BytesOk (l : List Int) : Prop := l.length ≤ 1048576 ∧ ∀ x ∈ l, 0 ≤ x ∧ x ≤ 255
theorem wfu8 {x : Int} (h : (Lit.int .u8 x).wf = true) : 0 ≤ x ∧ x ≤ 255 := by
  simp only [Lit.wf, Bool.and_eq_true, decide_eq_true_eq] at h
  obtain ⟨h0, h1⟩ := h
  have e0 : IntKind.u8.min = 0 := by rfl
  have e1 : IntKind.u8.max = 255 := by rfl
  rw [e0] at h0
  rw [e1] at h1
  exact ⟨h0, h1⟩
theorem bytesOk_of {l : List Int} (h : l.length ≤ 1048576) (hw : ∀ x ∈ l, (Lit.int .u8 x).wf = true) : BytesOk l := ⟨h, fun x hx => wfu8 (hw x hx)⟩
theorem BytesOk.rd {l : List Int} (h : BytesOk l) (i : Int) : 0 ≤ rd l i ∧ rd l i ≤ 255 := by
  unfold Go.Proofs.YtljfhfkmbgkpoaaW.PrintWords.rd
  by_cases hi : i.toNat < l.length
  · rw [List.getD_eq_getElem?_getD, List.getElem?_eq_getElem hi]
    exact h.2 _ (List.getElem_mem hi)
  · rw [List.getD_eq_getElem?_getD, List.getElem?_eq_none (by omega)]
    simp
theorem tmod_in {x n : Int} (hx : 0 ≤ x) (hn : 1 ≤ n) : 0 ≤ Int.tmod x n ∧ Int.tmod x n < n := by
  rw [Int.tmod_eq_emod_of_nonneg hx]
  exact ⟨Int.emod_nonneg _ (by omega), Int.emod_lt_of_pos _ (by omega)⟩
theorem tdiv_in {x n : Int} (hx : 0 ≤ x) (hn : 1 ≤ n) : 0 ≤ Int.tdiv x n ∧ Int.tdiv x n ≤ x := by
  rw [Int.tdiv_eq_ediv_of_nonneg hx]
  exact ⟨Int.ediv_nonneg hx (by omega), Int.ediv_le_self _ hx⟩
/-- A draw of a number: it answers, within its bounds, and goes one place on. -/
theorem next_some {c : List Int} (hc : BytesOk c) {t : Int} (h0 : 0 ≤ t) (h1 : t ≤ 1000000000000) (n : Int) :
    ∃ v, spec_l1Next.f c t n = some (v, t + 1) ∧ (1 ≤ n → 0 ≤ v ∧ v < n) ∧ (n < 1 → v = 0) := by
  unfold spec_l1Next.f
  have e1 : wrap64 (t + 1) = t + 1 := Kit.w64 (by omega) (by omega)
  have e2 : wrap64 (t + 1 - 1) = t := by rw [Kit.w64 (by omega) (by omega)]; omega
  simp only [e1, e2]
  by_cases hn : n < 1
  · rw [if_pos hn]
    exact ⟨0, rfl, fun h => by omega, fun _ => rfl⟩
  rw [if_neg hn]
  have hn1 : 1 ≤ n := by omega
  by_cases hl : (c.length : Int) = 0
  · rw [if_pos hl, if_neg (by omega)]
    have e4 : wrap64 (t * 7) = t * 7 := Kit.w64 (by omega) (by omega)
    rw [e4]
    exact ⟨_, rfl, fun _ => tmod_in (by omega) hn1, fun h => by omega⟩
  rw [if_neg hl]
  have hl1 : 1 ≤ (c.length : Int) := by omega
  have m1 := tmod_in h0 hl1
  have m2 := tmod_in (x := t + 1) (by omega) hl1
  have q1 := tdiv_in h0 hl1
  have r1 := hc.rd (Int.tmod t (c.length : Int))
  have r2 := hc.rd (Int.tmod (t + 1) (c.length : Int))
  rw [if_pos m1.1, if_pos m1.2]
  generalize rd c (Int.tmod t (c.length : Int)) = x1 at *
  generalize rd c (Int.tmod (t + 1) (c.length : Int)) = x2 at *
  generalize Int.tdiv t (c.length : Int) = d at *
  have w1 : wrap64 x1 = x1 := Kit.w64 (by omega) (by omega)
  have w2 : wrap64 x2 = x2 := Kit.w64 (by omega) (by omega)
  have w3 : wrap64 d = d := Kit.w64 (by omega) (by omega)
  have w4 : wrap64 (d * 37) = d * 37 := Kit.w64 (by omega) (by omega)
  have w5 : wrap64 (x1 + d * 37) = x1 + d * 37 := Kit.w64 (by omega) (by omega)
  have w6 : wrap64 ((x1 + d * 37) * 251) = (x1 + d * 37) * 251 := Kit.w64 (by omega) (by omega)
  have w7 : wrap64 (x2 * 13) = x2 * 13 := Kit.w64 (by omega) (by omega)
  have w8 : wrap64 ((x1 + d * 37) * 251 + x2 * 13) = (x1 + d * 37) * 251 + x2 * 13 := Kit.w64 (by omega) (by omega)
  have w9 : wrap64 ((x1 + d * 37) * 251 + x2 * 13 + t) = (x1 + d * 37) * 251 + x2 * 13 + t := Kit.w64 (by omega) (by omega)
  by_cases h200 : n > 200
  · rw [if_pos h200, if_pos m2.1, if_pos m2.2, if_neg (by omega)]
    simp only [w1, w2, w3, w4, w5, w6, w7, w8, w9]
    exact ⟨_, rfl, fun _ => tmod_in (by omega) hn1, fun h => by omega⟩
  · rw [if_neg h200, if_neg (by omega)]
    simp only [w1, w3, w4, w5]
    exact ⟨_, rfl, fun _ => tmod_in (by omega) hn1, fun h => by omega⟩
theorem pick_some {c : List Int} (hc : BytesOk c) {t : Int} (h0 : 0 ≤ t) (h1 : t ≤ 1000000000000) (l : List Int) (hl : 1 ≤ l.length) :
    ∃ v, spec_l1Pick.f c t l = some (v, t + 1) ∧ v ∈ l := by
  unfold spec_l1Pick.f
  obtain ⟨v, e, hv, _⟩ := next_some hc h0 h1 (l.length : Int)
  obtain ⟨g0, g1⟩ := hv (by omega)
  rw [e]
  simp only [Option.bind_some]
  rw [if_pos g0, if_pos g1]
  refine ⟨_, rfl, ?_⟩
  unfold Go.Proofs.YtljfhfkmbgkpoaaW.PrintWords.rd
  have hi : v.toNat < l.length := by omega
  rw [List.getD_eq_getElem?_getD, List.getElem?_eq_getElem hi]
  exact List.getElem_mem hi
theorem drawW_some {c : List Int} (hc : BytesOk c) {t : Int} (h0 : 0 ≤ t) (h1 : t ≤ 999999999000) : ∃ v, spec_l1DrawWeight.f c t = some (v, t + 3) := by
  unfold spec_l1DrawWeight.f
  obtain ⟨v1, e1, _⟩ := next_some hc h0 (by omega) 9
  obtain ⟨v2, e2, _⟩ := next_some hc (t := t + 1) (by omega) (by omega) 90000
  rw [e1]; simp only [Option.bind_some]
  rw [e2]; simp only [Option.bind_some]
  obtain ⟨v3, e3, _⟩ := pick_some hc (t := t + 1 + 1) (by omega) (by omega) ([wrap64 (v1 - 4), v2, 1000000000000, (-1000000000000), 1000000000001, 1000000, 1000001, 0, 4611686018427387904, (-9223372036854775808)] : List Int) (by simp)
  rw [e3]
  exact ⟨v3, by simp only [Option.bind_some]; congr 2; omega⟩
theorem drawAdd_some {c : List Int} (hc : BytesOk c) : ∃ a b, spec_DrawAddWeight.f c = some (a, b) := by
  unfold spec_DrawAddWeight.f spec_l1Source.f
  simp only [Option.bind_some]
  obtain ⟨a, e1⟩ := drawW_some hc (t := 0) (by omega) (by omega)
  obtain ⟨b, e2⟩ := drawW_some hc (t := 0 + 3) (by omega) (by omega)
  rw [e1]; simp only [Option.bind_some]
  rw [e2]; simp only [Option.bind_some]
  exact ⟨a, b, rfl⟩
theorem lwAt_some {c : List Int} (hc : BytesOk c) {i : Int} (h0 : 0 ≤ i) (h1 : i ≤ 1000000000000) (n : Int) : ∃ v, laws_lwAt.f c i n = some v ∧ 0 ≤ v ∧ (v < n ∨ v = 0) := by
  unfold laws_lwAt.f
  by_cases hn : n ≤ 1
  · rw [if_pos hn]
    exact ⟨0, rfl, by omega, .inr rfl⟩
  rw [if_neg hn]
  have hn1 : 1 ≤ n := by omega
  by_cases hl : (c.length : Int) = 0
  · rw [if_pos hl, if_neg (by omega)]
    have e4 : wrap64 (i * 7) = i * 7 := Kit.w64 (by omega) (by omega)
    rw [e4]
    have := tmod_in (x := i * 7) (by omega) hn1
    exact ⟨_, rfl, this.1, .inl this.2⟩
  rw [if_neg hl]
  have hl1 : 1 ≤ (c.length : Int) := by omega
  have e1 : wrap64 (i + 1) = i + 1 := Kit.w64 (by omega) (by omega)
  simp only [e1]
  have m1 := tmod_in h0 hl1
  have m2 := tmod_in (x := i + 1) (by omega) hl1
  have q1 := tdiv_in h0 hl1
  have r1 := hc.rd (Int.tmod i (c.length : Int))
  have r2 := hc.rd (Int.tmod (i + 1) (c.length : Int))
  rw [if_pos m1.1, if_pos m1.2]
  generalize rd c (Int.tmod i (c.length : Int)) = x1 at *
  generalize rd c (Int.tmod (i + 1) (c.length : Int)) = x2 at *
  generalize Int.tdiv i (c.length : Int) = d at *
  have w1 : wrap64 x1 = x1 := Kit.w64 (by omega) (by omega)
  have w2 : wrap64 x2 = x2 := Kit.w64 (by omega) (by omega)
  have w3 : wrap64 d = d := Kit.w64 (by omega) (by omega)
  have w4 : wrap64 (d * 3) = d * 3 := Kit.w64 (by omega) (by omega)
  have w5 : wrap64 (x1 + d * 3) = x1 + d * 3 := Kit.w64 (by omega) (by omega)
  have w6 : wrap64 ((x1 + d * 3) * 251) = (x1 + d * 3) * 251 := Kit.w64 (by omega) (by omega)
  have w8 : wrap64 ((x1 + d * 3) * 251 + x2) = (x1 + d * 3) * 251 + x2 := Kit.w64 (by omega) (by omega)
  by_cases h200 : n > 200
  · rw [if_pos h200, if_pos m2.1, if_pos m2.2, if_neg (by omega)]
    simp only [w1, w2, w3, w4, w5, w6, w8]
    have := tmod_in (x := (x1 + d * 3) * 251 + x2) (by omega) hn1
    exact ⟨_, rfl, this.1, .inl this.2⟩
  · rw [if_neg h200, if_neg (by omega)]
    simp only [w1, w3, w4, w5]
    have := tmod_in (x := x1 + d * 3) (by omega) hn1
    exact ⟨_, rfl, this.1, .inl this.2⟩
theorem addW_in {a b : Int} (ha : -1000000000000 ≤ a ∧ a ≤ 1000000000000) (hb : -1000000000000 ≤ b ∧ b ≤ 1000000000000) (hc : -1000000000000 ≤ a + b ∧ a + b ≤ 1000000000000) : addW a b = (0, a + b) := by
  simp [addW, isW_iff.2 ha, isW_iff.2 hb, isW_iff.2 hc]
theorem mulW_in {a b : Int} (ha : -1000000000000 ≤ a ∧ a ≤ 1000000000000) (hb : -1000000000000 ≤ b ∧ b ≤ 1000000000000) (hc : (a * b).natAbs ≤ 1000000000000) : mulW a b = (0, a * b) := by
  simp [mulW, mulP, isW_iff.2 ha, isW_iff.2 hb, hc]
theorem small_mul {x y : Int} {p q : Nat} (hx : x.natAbs ≤ p) (hy : y.natAbs ≤ q) : (x * y).natAbs ≤ p * q := by
  rw [Int.natAbs_mul]; exact Nat.mul_le_mul hx hy
theorem weights_tail {c : List Int} (hc : BytesOk c) : Ev (fun k => laws_FnWeights.j0 k c false) true := by
  refine Kit.Ev.up ?_
  simp only [laws_FnWeights.j0]
  refine Kit.Ev.neg (by simp) ?_
  obtain ⟨x, e1, x0, x1⟩ := lwAt_some hc (i := 1) (by omega) (by omega) 1000
  obtain ⟨y, e2, y0, y1⟩ := lwAt_some hc (i := 2) (by omega) (by omega) 1000
  obtain ⟨z, e3, z0, z1⟩ := lwAt_some hc (i := 3) (by omega) (by omega) 1000
  refine Kit.Ev.call e1 (Kit.Ev.call e2 (Kit.Ev.call e3 ?_))
  have wx : wrap64 (x - 500) = x - 500 := Kit.w64 (by omega) (by omega)
  have wy : wrap64 (y - 500) = y - 500 := Kit.w64 (by omega) (by omega)
  have wz : wrap64 (z - 500) = z - 500 := Kit.w64 (by omega) (by omega)
  simp only [wx, wy, wz]
  have hx : (x - 500).natAbs ≤ 500 := by omega
  have hy : (y - 500).natAbs ≤ 500 := by omega
  have hz : (z - 500).natAbs ≤ 500 := by omega
  generalize x - 500 = p at *
  generalize y - 500 = q at *
  generalize z - 500 = r at *
  have hpq := small_mul hx hy
  have hpr := small_mul hx hz
  have hqr : (q + r).natAbs ≤ 1000 := by omega
  have hps := small_mul hx hqr
  have hadd : p * (q + r) = p * q + p * r := Int.mul_add p q r
  have w1 : wrap64 (p * q) = p * q := Kit.w64 (by omega) (by omega)
  have w2 : wrap64 (p * r) = p * r := Kit.w64 (by omega) (by omega)
  have w3 : wrap64 (p * q + p * r) = p * q + p * r := Kit.w64 (by omega) (by omega)
  simp only [w1, w2, w3]
  refine Kit.Ev.then ((implAdd_ev q r).eq (addW_in (by omega) (by omega) (by omega))) ?_
  refine Kit.Ev.then ((implMul_ev p (q + r)).eq (mulW_in (by omega) (by omega) (by omega))) ?_
  refine Kit.Ev.pos hadd ?_
  refine Kit.Ev.then ((implMul_ev p q).eq (mulW_in (by omega) (by omega) (by omega))) ?_
  refine Kit.Ev.then ((implMul_ev p r).eq (mulW_in (by omega) (by omega) (by omega))) ?_
  refine Kit.Ev.then ((implAdd_ev (p * q) (p * r)).eq (addW_in (by omega) (by omega) (by omega))) ?_
  exact Kit.Ev.const (by simp)
theorem FnWeights : laws_FnWeights.Pure := by
  intro l hm _ hw
  refine Kit.Ev.ex ?_
  unfold laws_FnWeights.f laws_lwBig.f
  refine Kit.Ev.call rfl ?_
  refine Kit.Ev.ite (fun _ => Kit.Ev.const rfl) (fun h => ?_)
  have hc : BytesOk l := bytesOk_of (by simp at h; omega) hw
  obtain ⟨a, b, e⟩ := drawAdd_some hc
  refine Kit.Ev.call e ?_
  refine Kit.Ev.then (implAdd_ev a b) (Kit.Ev.then (implMul_ev a b) (Kit.Ev.then ((implAdd_ev b a).eq (addW_comm b a)) ?_))
  refine Kit.Ev.neg (by simp) (Kit.Ev.then ((implMul_ev b a).eq (mulW_comm b a)) (Kit.Ev.neg (by simp) ?_))
  refine Kit.Ev.then (specAdd_ev a b) (Kit.Ev.pos rfl (Kit.Ev.then (specMul_ev a b) ?_))
  simp only [bne_self_eq_false]
  exact weights_tail hc

end Go.Proofs.Ytljfhfkmbgkpoaa.Pure
