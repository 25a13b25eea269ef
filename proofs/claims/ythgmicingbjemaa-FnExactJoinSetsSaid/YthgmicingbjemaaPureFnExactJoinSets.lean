/- The law FnExactJoinSets answers true for every two lists of entries and every number of cells. -/
import Derived.Test.YthgmicingbjemaaKit
import Derived.Test.YthgmicingbjemaaVFnExactJoinSets
namespace Go.Proofs.Ythgmicingbjemaa.Pure
open Go.RowKit Go.Proofs.Ythgmicingbjemaa.PFnExactJoinSets Go.Proofs.YthgmicingbjemaaW.PrintWords Go.Proofs.YthgmicingbjemaaW.PrintLast Go.Proofs.Ythgmicingbjemaa
set_option linter.unusedSimpArgs false
set_option linter.unusedVariables false

theorem w64n {i n : Nat} (h : i < n) (hn : n ≤ 9223372036854775807) : wrap64 ((i : Int) + 1) = ((i + 1 : Nat) : Int) := by
  rw [Kit.w64 (by omega) (by omega)]; rfl
theorem rd_drop {xs : List Int} {i : Nat} (h : i < xs.length) : xs.drop i = rd xs (i : Int) :: xs.drop (i + 1) := by
  rw [Kit.rd_at h]; exact List.drop_eq_getElem_cons h
theorem toInt64S_l0 (xs : List Int) (hn : xs.length ≤ 9223372036854775807) : ∀ (d i : Nat) (ys : List Int), i + d = xs.length → ys.length = xs.length → (∀ j, j < i → ys[j]? = xs[j]?) → Ev (fun k => laws_toInt64S.l0 k xs ys (i : Int)) xs := by
  intro d
  induction d with
  | zero =>
    intro i ys hd hl he
    refine Kit.Ev.up ?_
    simp only [laws_toInt64S.l0]
    refine Kit.Ev.neg (by omega) (Kit.Ev.const ?_)
    congr 1
    apply List.ext_getElem?
    intro j
    by_cases hj : j < i
    · exact he j hj
    · rw [List.getElem?_eq_none (by omega), List.getElem?_eq_none (by omega)]
  | succ d ih =>
    intro i ys hd hl he
    refine Kit.Ev.up ?_
    simp only [laws_toInt64S.l0]
    refine Kit.Ev.pos (by omega) (Kit.Ev.pos (by omega) (Kit.Ev.pos (by omega) ?_))
    rw [w64n (n := xs.length) (by omega) hn, Int.toNat_natCast]
    refine ih (i + 1) _ (by omega) (by simpa using hl) (fun j hj => ?_)
    rw [List.getElem?_set]
    by_cases e : i = j
    · subst e
      rw [if_pos rfl, if_pos (by omega), Kit.rd_at (by omega), List.getElem?_eq_getElem (by omega)]
    · rw [if_neg e]
      exact he j (by omega)
theorem toInt64S_ev (xs : List Int) (hn : xs.length ≤ 1048576) : Ev (fun k => laws_toInt64S.f k xs) xs := by
  unfold laws_toInt64S.f
  refine Kit.Ev.pos (by omega) (Kit.Ev.pos (by omega) ?_)
  exact toInt64S_l0 xs (by omega) xs.length 0 _ (by omega) (by simp) (fun j hj => by omega)
theorem eqInt64S_l0 (xs ys : List Int) (hn : xs.length ≤ 9223372036854775807) (hl : xs.length = ys.length) : ∀ (d i : Nat), i + d = xs.length → Ev (fun k => laws_eqInt64S.l0 k xs ys (i : Int)) (decide (xs.drop i = ys.drop i)) := by
  intro d
  induction d with
  | zero =>
    intro i hd
    refine Kit.Ev.up ?_
    simp only [laws_eqInt64S.l0]
    refine Kit.Ev.neg (by omega) (Kit.Ev.const ?_)
    rw [List.drop_eq_nil_of_le (by omega), List.drop_eq_nil_of_le (by omega)]; simp
  | succ d ih =>
    intro i hd
    refine Kit.Ev.up ?_
    simp only [laws_eqInt64S.l0]
    refine Kit.Ev.pos (by omega) (Kit.Ev.pos (by omega) (Kit.Ev.pos (by omega) ?_))
    rw [rd_drop (xs := xs) (i := i) (by omega), rd_drop (xs := ys) (i := i) (by omega), w64n (n := xs.length) (by omega) hn]
    refine Kit.Ev.ite (fun h => ?_) (fun h => Kit.Ev.const ?_)
    · exact (ih (i + 1) (by omega)).eq (by rw [h]; simp)
    · simp [h]
theorem eqInt64S_ev (xs ys : List Int) (hn : xs.length ≤ 9223372036854775807) : Ev (fun k => laws_eqInt64S.f k xs ys) (decide (xs = ys)) := by
  unfold laws_eqInt64S.f
  refine Kit.Ev.ite (fun h => ?_) (fun h => Kit.Ev.const ?_)
  · exact (eqInt64S_l0 xs ys hn (by omega) xs.length 0 (by omega)).eq (by simp)
  · have : xs ≠ ys := fun e => h (by rw [e])
    simp [this]
theorem eqInt64S_refl (xs : List Int) (hn : xs.length ≤ 9223372036854775807) : Ev (fun k => laws_eqInt64S.f k xs xs) true := (eqInt64S_ev xs xs hn).eq (by simp)
theorem specIn_eq (a b c : Int) : spec_l1In.f a b c = some (decide (b ≤ a ∧ a ≤ c)) := by
  unfold spec_l1In.f
  by_cases h : a ≥ b
  · rw [if_pos h]; simp [show b ≤ a from h]
  · rw [if_neg h]; simp; intro h'; omega
theorem implIn_eq (a b c : Int) : impl_in.f a b c = some (decide (b ≤ a ∧ a ≤ c)) := by
  unfold impl_in.f
  by_cases h : a ≥ b
  · rw [if_pos h]; simp [show b ≤ a from h]
  · rw [if_neg h]; simp; intro h'; omega
def isW (x : Int) : Bool := decide (-1000000000000 ≤ x ∧ x ≤ 1000000000000)
theorem isW_iff {x : Int} : isW x = true ↔ -1000000000000 ≤ x ∧ x ≤ 1000000000000 := by simp [isW]
def addW (a b : Int) : Int × Int := if isW a = true ∧ isW b = true then (if isW (a + b) = true then (0, a + b) else (8, 0)) else (3, 0)
theorem addW_comm (a b : Int) : addW a b = addW b a := by
  unfold addW
  rw [Int.add_comm b a]; simp only [and_comm]
def mulP (a b : Int) : Int × Bool := if (a * b).natAbs ≤ 1000000000000 then (a * b, true) else (0, false)
theorem mulP_comm (a b : Int) : mulP a b = mulP b a := by
  unfold mulP
  rw [Int.mul_comm b a]
def mulW (a b : Int) : Int × Int := if isW a = true ∧ isW b = true then (if (mulP a b).2 = true then (0, (mulP a b).1) else (8, 0)) else (3, 0)
theorem mulW_comm (a b : Int) : mulW a b = mulW b a := by
  unfold mulW
  rw [mulP_comm b a]; simp only [and_comm]
theorem specWeight_eq (a : Int) : spec_l1Weight.f a = some (isW a) := by
  unfold spec_l1Weight.f
  rw [specIn_eq]; rfl
theorem implWeight_eq (a : Int) : impl_isWeight.f a = some (isW a) := by
  unfold impl_isWeight.f
  rw [implIn_eq]; rfl
theorem mul_gt {x y : Int} (hx : 0 ≤ x) (hy : 0 < y) : (x > (1000000000000 : Int) / y) ↔ ¬ (x * y).natAbs ≤ 1000000000000 := by
  have h0 : 0 ≤ x * y := Int.mul_nonneg hx (Int.le_of_lt hy)
  have h1 : ((1000000000000 : Int) / y < x) ↔ 1000000000000 < x * y := Int.ediv_lt_iff_lt_mul hy
  constructor
  · intro h
    have := h1.1 h
    omega
  · intro h
    exact h1.2 (by omega)
theorem wrap_quo {y : Int} (hy : 0 < y) : wrap64 ((1000000000000 : Int) / y) = (1000000000000 : Int) / y := by
  have h0 : 0 ≤ (1000000000000 : Int) / y := Int.ediv_nonneg (by omega) (by omega)
  have h1 : (1000000000000 : Int) / y ≤ 1000000000000 := Int.ediv_le_self _ (by omega)
  exact Kit.w64 (by omega) (by omega)
theorem wrap_tquo {y : Int} (hy : 0 < y) : wrap64 (Int.tdiv (1000000000000 : Int) y) = (1000000000000 : Int) / y := by
  rw [Int.tdiv_eq_ediv_of_nonneg (by omega)]
  exact wrap_quo hy
theorem wrap_mul {a b : Int} (h : (a * b).natAbs ≤ 1000000000000) : wrap64 (a * b) = a * b := Kit.w64 (by omega) (by omega)
theorem abs_mul (a b : Int) : ((a.natAbs : Int) * (b.natAbs : Int)).natAbs = (a * b).natAbs := by
  rw [Int.natAbs_mul, Int.natAbs_mul]; simp
theorem specMulP_ev (a b : Int) (ha : isW a = true) (hb : isW b = true) : Ev (fun k => spec_l1Mul.f k a b) (mulP a b) := by
  have ha' := isW_iff.1 ha
  have hb' := isW_iff.1 hb
  refine Kit.Ev.up (Kit.Ev.up ?_)
  unfold spec_l1Mul.f
  simp only [spec_l1Mul.j0, spec_l1Mul.j1]
  by_cases a0 : a = 0
  · subst a0; exact Kit.Ev.const (by simp [mulP])
  by_cases b0 : b = 0
  · subst b0; exact Kit.Ev.const (by simp [mulP, a0])
  have hbe : (b == 0) = false := by simp [b0]
  simp only [a0, if_false, hbe, Bool.false_eq_true]
  rw [Kit.w64 (x := -a) (by omega) (by omega), Kit.w64 (x := -b) (by omega) (by omega)]
  have key : ∀ x y : Int, 0 ≤ x → 0 < y → x = (a.natAbs : Int) → y = (b.natAbs : Int) → (if x > wrap64 (Int.tdiv (1000000000000 : Int) y) then (some ((0 : Int), false)) else (some (wrap64 (a * b), true))) = some (mulP a b) := by
    intro x y hx hy ex ey
    rw [wrap_tquo hy]
    unfold mulP
    by_cases h : x > (1000000000000 : Int) / y
    · rw [if_pos h, if_neg]
      have := (mul_gt hx hy).1 h
      rwa [ex, ey, abs_mul] at this
    · have h2 : (a * b).natAbs ≤ 1000000000000 := by
        have := mt (mul_gt hx hy).2 h
        rw [ex, ey, abs_mul] at this
        omega
      rw [if_neg h, if_pos h2, wrap_mul h2]
  refine Kit.Ev.ite (fun ha2 => ?_) (fun ha2 => ?_) <;> refine Kit.Ev.ite (fun hb2 => ?_) (fun hb2 => ?_)
  · exact Kit.Ev.neg (by omega) (Kit.Ev.const (key (-a) (-b) (by omega) (by omega) (by omega) (by omega)))
  · exact Kit.Ev.neg (by omega) (Kit.Ev.const (key (-a) b (by omega) (by omega) (by omega) (by omega)))
  · exact Kit.Ev.neg (by omega) (Kit.Ev.const (key a (-b) (by omega) (by omega) (by omega) (by omega)))
  · exact Kit.Ev.neg (by omega) (Kit.Ev.const (key a b (by omega) (by omega) (by omega) (by omega)))
theorem implMulP_ev (a b : Int) (ha : isW a = true) (hb : isW b = true) : Ev (fun k => impl_mulWeight.f k a b) (mulP a b) := by
  have ha' := isW_iff.1 ha
  have hb' := isW_iff.1 hb
  refine Kit.Ev.up ?_
  unfold impl_mulWeight.f
  simp only [impl_mulWeight.j0]
  by_cases a0 : a = 0
  · subst a0; exact Kit.Ev.const (by simp [mulP])
  by_cases b0 : b = 0
  · subst b0; exact Kit.Ev.const (by simp [mulP, a0])
  have hbe : (b == 0) = false := by simp [b0]
  simp only [a0, if_false, hbe, Bool.false_eq_true]
  rw [Kit.w64 (x := -a) (by omega) (by omega), Kit.w64 (x := -b) (by omega) (by omega)]
  have ea : mx a (-a) = (a.natAbs : Int) := by unfold mx; split <;> omega
  have eb : mx b (-b) = (b.natAbs : Int) := by unfold mx; split <;> omega
  rw [ea, eb]
  have hy : (0 : Int) < (b.natAbs : Int) := by omega
  simp only [wrap_tquo hy, wrap_quo hy]
  refine Kit.Ev.neg (by omega) (Kit.Ev.const ?_)
  unfold mulP
  by_cases h : (a.natAbs : Int) > (1000000000000 : Int) / (b.natAbs : Int)
  · rw [if_pos h, if_neg]
    have := (mul_gt (by omega) hy).1 h
    rwa [abs_mul] at this
  · have h2 : (a * b).natAbs ≤ 1000000000000 := by
      have := mt (mul_gt (by omega) hy).2 h
      rw [abs_mul] at this
      omega
    rw [if_neg h, if_pos h2, wrap_mul h2]
def inC (x : Int) : Bool := decide (-1000000000 ≤ x ∧ x ≤ 1000000000)
def rowF (xs : List Int) : Int := if 4 < xs.length then 2 else if xs.all inC = true then 0 else 3
theorem specRow_l0 (xs : List Int) (hn : xs.length ≤ 9223372036854775807) : ∀ (d i : Nat), i + d = xs.length → Ev (fun k => spec_RowFault.l0 k xs (i : Int)) (if (xs.drop i).all inC = true then 0 else 3) := by
  intro d
  induction d with
  | zero =>
    intro i hd
    refine Kit.Ev.up ?_
    simp only [spec_RowFault.l0]
    refine Kit.Ev.neg (by omega) (Kit.Ev.const ?_)
    rw [List.drop_eq_nil_of_le (by omega)]; simp
  | succ d ih =>
    intro i hd
    refine Kit.Ev.up ?_
    simp only [spec_RowFault.l0]
    refine Kit.Ev.pos (by omega) (Kit.Ev.pos (by omega) ?_)
    rw [specIn_eq]
    simp only [Option.bind_some]
    rw [rd_drop (xs := xs) (i := i) (by omega), w64n (n := xs.length) (by omega) hn]
    by_cases h : inC (rd xs (i : Int)) = true
    · refine Kit.Ev.pos h ((ih (i + 1) (by omega)).eq ?_)
      simp [h]
    · refine Kit.Ev.neg h (Kit.Ev.const ?_)
      simp [h]
theorem specRow_ev (xs : List Int) (hn : xs.length ≤ 9223372036854775807) : Ev (fun k => spec_RowFault.f k xs) (rowF xs) := by
  unfold spec_RowFault.f
  refine Kit.Ev.ite (fun h => Kit.Ev.const ?_) (fun h => ?_)
  · simp [rowF, show 4 < xs.length by omega]
  · exact (specRow_l0 xs hn xs.length 0 (by omega)).eq (by simp [rowF, show ¬ 4 < xs.length by omega])
theorem implRow_l0 (xs : List Int) (hn : xs.length ≤ 9223372036854775807) : ∀ (d i : Nat), i + d = xs.length → Ev (fun k => impl_RowFault.l0 k xs (xs.length : Int) (i : Int)) (if (xs.drop i).all inC = true then 0 else 3) := by
  intro d
  induction d with
  | zero =>
    intro i hd
    refine Kit.Ev.up ?_
    simp only [impl_RowFault.l0]
    refine Kit.Ev.neg (by omega) (Kit.Ev.const ?_)
    rw [List.drop_eq_nil_of_le (by omega)]; simp
  | succ d ih =>
    intro i hd
    refine Kit.Ev.up ?_
    simp only [impl_RowFault.l0]
    refine Kit.Ev.pos (by omega) (Kit.Ev.pos (by omega) (Kit.Ev.pos (by omega) ?_))
    rw [implIn_eq]
    simp only [Option.bind_some]
    rw [rd_drop (xs := xs) (i := i) (by omega), w64n (n := xs.length) (by omega) hn]
    by_cases h : inC (rd xs (i : Int)) = true
    · refine Kit.Ev.pos h ((ih (i + 1) (by omega)).eq ?_)
      simp [h]
    · refine Kit.Ev.neg h (Kit.Ev.const ?_)
      simp [h]
theorem implRow_ev (xs : List Int) (hn : xs.length ≤ 9223372036854775807) : Ev (fun k => impl_RowFault.f k xs) (rowF xs) := by
  unfold impl_RowFault.f
  refine Kit.Ev.ite (fun h => Kit.Ev.const ?_) (fun h => ?_)
  · simp [rowF, show 4 < xs.length by omega]
  · exact (implRow_l0 xs hn xs.length 0 (by omega)).eq (by simp [rowF, show ¬ 4 < xs.length by omega])
def cmpR : List Int → List Int → Int
  | [], [] => 0
  | [], _ :: _ => -1
  | _ :: _, [] => 1
  | a :: xs, b :: ys => if a < b then -1 else if b < a then 1 else cmpR xs ys
theorem cmpR_len : ∀ (xs ys : List Int), xs = [] ∨ ys = [] → cmpR xs ys = if xs.length < ys.length then -1 else if ys.length < xs.length then 1 else 0
  | [], [], _ => rfl
  | [], _ :: _, _ => by simp [cmpR]
  | _ :: _, [], _ => by simp [cmpR]
  | _ :: _, _ :: _, h => by simp at h
theorem specCmp_l0 (xs ys : List Int) (hn : xs.length ≤ 9223372036854775807) : ∀ (d i : Nat), i + d = min xs.length ys.length → Ev (fun k => spec_CompareRows.l0 k xs ys (i : Int)) (cmpR (xs.drop i) (ys.drop i)) := by
  intro d
  induction d with
  | zero =>
    intro i hd
    refine Kit.Ev.up (Kit.Ev.up ?_)
    simp only [spec_CompareRows.l0, spec_CompareRows.j1]
    have hend : Ev (fun _ : Nat => if (xs.length : Int) < (ys.length : Int) then some (-1 : Int) else if (xs.length : Int) > (ys.length : Int) then some 1 else some 0) (cmpR (xs.drop i) (ys.drop i)) := by
      refine Kit.Ev.const ?_
      rw [cmpR_len _ _ (by
        by_cases h : i = xs.length
        · exact .inl (List.drop_eq_nil_of_le (by omega))
        · exact .inr (List.drop_eq_nil_of_le (by omega)))]
      simp only [List.length_drop]
      by_cases h1 : xs.length < ys.length
      · rw [if_pos (by omega), if_pos (by omega)]
      · by_cases h2 : ys.length < xs.length
        · rw [if_neg (by omega), if_pos (by omega), if_neg (by omega), if_pos (by omega)]
        · rw [if_neg (by omega), if_neg (by omega), if_neg (by omega), if_neg (by omega)]
    refine Kit.Ev.ite (fun h => ?_) (fun h => ?_)
    · refine Kit.Ev.neg (by simp; omega) hend
    · exact Kit.Ev.neg (by simp) hend
  | succ d ih =>
    intro i hd
    refine Kit.Ev.up (Kit.Ev.up ?_)
    simp only [spec_CompareRows.l0, spec_CompareRows.j1]
    refine Kit.Ev.pos (by omega) (Kit.Ev.pos (by simp; omega) (Kit.Ev.pos (by omega) (Kit.Ev.pos (by omega) (Kit.Ev.pos (by omega) ?_))))
    rw [rd_drop (xs := xs) (i := i) (by omega), rd_drop (xs := ys) (i := i) (by omega), w64n (n := xs.length) (by omega) hn]
    simp only [cmpR]
    refine Kit.Ev.ite2 (fun _ => Kit.Ev.const rfl) (fun _ => ?_)
    exact Kit.Ev.ite2 (fun _ => Kit.Ev.const rfl) (fun _ => ih (i + 1) (by omega))
theorem specCmp_ev (xs ys : List Int) (hn : xs.length ≤ 9223372036854775807) : Ev (fun k => spec_CompareRows.f k xs ys) (cmpR xs ys) := specCmp_l0 xs ys hn _ 0 (Nat.zero_add _)
theorem cmp64_eq (a b : Int) : cmp_Compare_int64.f a b = some (if a < b then -1 else if b < a then 1 else 0) := by
  unfold cmp_Compare_int64.f cmp_isNaN_int64.f
  simp only [bne_self_eq_false, Option.bind_some, Bool.false_eq_true, if_false]
  by_cases h1 : a < b
  · simp [h1]
  · by_cases h2 : b < a <;> simp [h1, h2]
theorem cmpI_eq (a b : Int) : cmp_Compare_int.f a b = some (if a < b then -1 else if b < a then 1 else 0) := by
  unfold cmp_Compare_int.f cmp_isNaN_int.f
  simp only [bne_self_eq_false, Option.bind_some, Bool.false_eq_true, if_false]
  by_cases h1 : a < b
  · simp [h1]
  · by_cases h2 : b < a <;> simp [h1, h2]
theorem implCmp_l0 (xs ys : List Int) (hn : xs.length ≤ 9223372036854775807) : ∀ (d i : Nat), i + d = min xs.length ys.length → Ev (fun k => impl_CompareRows.l0 k xs ys ((min xs.length ys.length : Nat) : Int) (i : Int)) (cmpR (xs.drop i) (ys.drop i)) := by
  intro d
  induction d with
  | zero =>
    intro i hd
    refine Kit.Ev.up ?_
    simp only [impl_CompareRows.l0]
    refine Kit.Ev.neg (by omega) ?_
    rw [cmpI_eq]
    refine Kit.Ev.const ?_
    rw [cmpR_len _ _ (by
      by_cases h : i = xs.length
      · exact .inl (List.drop_eq_nil_of_le (by omega))
      · exact .inr (List.drop_eq_nil_of_le (by omega)))]
    simp only [List.length_drop, Option.bind_some]
    by_cases h1 : xs.length < ys.length
    · rw [if_pos (by omega), if_pos (by omega)]
    · by_cases h2 : ys.length < xs.length
      · rw [if_neg (by omega), if_pos (by omega), if_neg (by omega), if_pos (by omega)]
      · rw [if_neg (by omega), if_neg (by omega), if_neg (by omega), if_neg (by omega)]
  | succ d ih =>
    intro i hd
    refine Kit.Ev.up ?_
    simp only [impl_CompareRows.l0]
    refine Kit.Ev.pos (by omega) (Kit.Ev.pos (by omega) (Kit.Ev.pos (by omega) (Kit.Ev.pos (by omega) ?_)))
    rw [rd_drop (xs := xs) (i := i) (by omega), rd_drop (xs := ys) (i := i) (by omega), w64n (n := xs.length) (by omega) hn, cmp64_eq]
    simp only [cmpR, Option.bind_some]
    by_cases h1 : rd xs (i : Int) < rd ys (i : Int)
    · simp only [h1, if_true]; exact Kit.Ev.const rfl
    · by_cases h2 : rd ys (i : Int) < rd xs (i : Int)
      · simp only [h1, h2, if_true, if_false]; exact Kit.Ev.const rfl
      · simp only [h1, h2, if_true, if_false]; exact ih (i + 1) (by omega)
theorem implCmp_ev (xs ys : List Int) (hn : xs.length ≤ 9223372036854775807) : Ev (fun k => impl_CompareRows.f k xs ys) (cmpR xs ys) := by
  unfold impl_CompareRows.f
  refine Kit.Ev.ite (fun h => ?_) (fun h => ?_)
  · have := implCmp_l0 xs ys hn _ 0 (Nat.zero_add _)
    rwa [Nat.min_eq_right (by omega)] at this
  · have := implCmp_l0 xs ys hn _ 0 (Nat.zero_add _)
    rwa [Nat.min_eq_left (by omega)] at this
theorem slicesEq_l0 (xs ys : List Int) (hn : xs.length ≤ 9223372036854775807) (hl : xs.length = ys.length) : ∀ (d i : Nat), i + d = xs.length → Ev (fun k => slices_Equal_int64_int64.l0 k xs ys (xs.length : Int) (i : Int)) (decide (xs.drop i = ys.drop i)) := by
  intro d
  induction d with
  | zero =>
    intro i hd
    refine Kit.Ev.up ?_
    simp only [slices_Equal_int64_int64.l0]
    refine Kit.Ev.neg (by omega) (Kit.Ev.const ?_)
    rw [List.drop_eq_nil_of_le (by omega), List.drop_eq_nil_of_le (by omega)]; simp
  | succ d ih =>
    intro i hd
    refine Kit.Ev.up ?_
    simp only [slices_Equal_int64_int64.l0]
    refine Kit.Ev.pos (by omega) (Kit.Ev.pos (by omega) (Kit.Ev.pos (by omega) (Kit.Ev.pos (by omega) ?_)))
    rw [rd_drop (xs := xs) (i := i) (by omega), rd_drop (xs := ys) (i := i) (by omega), w64n (n := xs.length) (by omega) hn]
    refine Kit.Ev.ite (fun h => ?_) (fun h => Kit.Ev.const ?_)
    · exact (ih (i + 1) (by omega)).eq (by rw [h]; simp)
    · simp [h]
theorem slicesEq_ev (xs ys : List Int) (hn : xs.length ≤ 9223372036854775807) : Ev (fun k => slices_Equal_int64_int64.f k xs ys) (decide (xs = ys)) := by
  unfold slices_Equal_int64_int64.f
  refine Kit.Ev.ite (fun h => ?_) (fun h => Kit.Ev.const ?_)
  · exact (slicesEq_l0 xs ys hn (by omega) xs.length 0 (by omega)).eq (by simp)
  · have : xs ≠ ys := fun e => h (by rw [e])
    simp [this]
def eE (x : S42) : Sum.En := (x.f0, x.f1)
def dE (p : Sum.En) : S42 := ⟨p.1, p.2⟩
theorem dE_eE (l : List S42) : (l.map eE).map dE = l := by rw [List.map_map]; exact List.map_id _
def putE : List S42 → S42 → List S42
  | [], e => [e]
  | x :: xs, e => if cmpR x.f0 e.f0 < 0 then x :: putE xs e else if cmpR x.f0 e.f0 = 0 then ⟨x.f0, wrap64 (x.f1 + e.f1)⟩ :: xs else e :: x :: xs
theorem cmpR_sum : ∀ a b : List Int, cmpR a b = Sum.cmpR a b
  | [], [] => rfl
  | [], _ :: _ => rfl
  | _ :: _, [] => rfl
  | x :: xs, y :: ys => by unfold cmpR Sum.cmpR; rw [cmpR_sum xs ys]
theorem putE_sum : ∀ (l : List S42) (e : S42), (putE l e).map eE = Sum.put (l.map eE) (eE e)
  | [], _ => rfl
  | x :: xs, e => by
    rw [List.map_cons]
    unfold putE Sum.put
    rw [cmpR_sum]
    show _ = if Sum.cmpR x.f0 e.f0 < 0 then _ else if Sum.cmpR x.f0 e.f0 = 0 then _ else _
    by_cases h1 : Sum.cmpR x.f0 e.f0 < 0
    · rw [if_pos h1, if_pos h1, List.map_cons, putE_sum xs e]
    · rw [if_neg h1, if_neg h1]
      by_cases h2 : Sum.cmpR x.f0 e.f0 = 0
      · rw [if_pos h2, if_pos h2]; rfl
      · rw [if_neg h2, if_neg h2]; rfl
theorem foldE_sum : ∀ (l s : List S42), (l.foldl putE s).map eE = (l.map eE).foldl Sum.put (s.map eE)
  | [], _ => rfl
  | x :: xs, s => by rw [List.foldl_cons, List.map_cons, List.foldl_cons, foldE_sum xs, putE_sum]
theorem putE_len : ∀ (l : List S42) (e : S42), (putE l e).length ≤ l.length + 1
  | [], _ => by simp [putE]
  | x :: xs, e => by
    have := putE_len xs e
    unfold putE
    split
    · simp only [List.length_cons]; omega
    · split <;> simp only [List.length_cons] <;> omega
theorem putE_rows : ∀ (l : List S42) (e : S42) {n : Nat}, (∀ x ∈ l, x.f0.length ≤ n) → e.f0.length ≤ n → ∀ x ∈ putE l e, x.f0.length ≤ n
  | [], e, n, _, he => by intro x hx; unfold putE at hx; rw [List.mem_singleton.mp hx]; exact he
  | y :: ys, e, n, hl, he => by
    have ih := putE_rows ys e (n := n) (fun x hx => hl x (List.mem_cons_of_mem _ hx)) he
    have hy := hl y (List.mem_cons_self ..)
    intro x hx
    unfold putE at hx
    split at hx
    · rcases List.mem_cons.mp hx with rfl | hx
      · exact hy
      · exact ih x hx
    · split at hx
      · rcases List.mem_cons.mp hx with rfl | hx
        · exact hy
        · exact hl x (List.mem_cons_of_mem _ hx)
      · rcases List.mem_cons.mp hx with rfl | hx
        · exact he
        · exact hl x hx
/-- The rows are no longer than any machine's. -/
def Fine (l : List S42) : Prop := l.length ≤ 1048576 ∧ ∀ x ∈ l, x.f0.length ≤ 1048576
theorem Fine.n {l : List S42} (h : Fine l) : l.length ≤ 9223372036854775807 := by have := h.1; omega
theorem Fine.r {l : List S42} (h : Fine l) : ∀ x ∈ l, x.f0.length ≤ 9223372036854775807 := fun x hx => by have := h.2 x hx; omega
/-- The entries put together, and a code. -/
def sumF (l : List S42) : List S42 × Int := ((Sum.sumSet (l.map eE)).1.map dE, (Sum.sumSet (l.map eE)).2)
def nzE (x : S42) : Bool := decide (x.f1 ≠ 0)
def badE (x : S42) : Bool := !isW x.f1
def finE (s : List S42) : List S42 × Int := if s.any badE = true then ([], 8) else if 200 < (s.filter nzE).length then ([], 2) else (s.filter nzE, 0)
theorem finE_sum (s : List S42) : finE s = ((Sum.finish (s.map eE)).1.map dE, (Sum.finish (s.map eE)).2) := by
  have e1 : (s.map eE).any (fun e => !(decide (-1000000000000 ≤ e.2) && decide (e.2 ≤ 1000000000000))) = s.any badE := by
    rw [List.any_map]
    congr 1
    funext x
    show (!(decide (-1000000000000 ≤ x.f1) && decide (x.f1 ≤ 1000000000000))) = !isW x.f1
    unfold isW
    rw [Bool.decide_and]
  have e2 : (s.map eE).filter (fun e => decide (e.2 ≠ 0)) = (s.filter nzE).map eE := by
    rw [List.filter_map]; rfl
  unfold finE Sum.finish
  rw [e1, e2, List.length_map]
  by_cases c1 : s.any badE = true
  · rw [if_pos c1, if_pos c1]; rfl
  · rw [if_neg c1, if_neg c1]
    by_cases c2 : 200 < (s.filter nzE).length
    · rw [if_pos c2, if_pos c2]; rfl
    · rw [if_neg c2, if_neg c2, dE_eE]
theorem sumF_fin (l : List S42) : sumF l = finE (l.foldl putE []) := by
  unfold sumF
  rw [finE_sum, foldE_sum]
  rfl
theorem finE_len (s : List S42) : (finE s).1.length ≤ 200 := by
  unfold finE
  repeat' split
  · simp
  · simp
  · simp only; omega
theorem foldE_rows {n : Nat} : ∀ (l s : List S42), (∀ x ∈ l, x.f0.length ≤ n) → (∀ x ∈ s, x.f0.length ≤ n) → ∀ x ∈ l.foldl putE s, x.f0.length ≤ n
  | [], _, _, hs => hs
  | y :: ys, s, hl, hs => by
    rw [List.foldl_cons]
    exact foldE_rows ys _ (fun x hx => hl x (List.mem_cons_of_mem _ hx)) (putE_rows s y hs (hl y (List.mem_cons_self ..)))
theorem sumF_fine {l : List S42} (h : Fine l) : Fine (sumF l).1 := by
  rw [sumF_fin]
  refine ⟨Nat.le_trans (finE_len _) (by omega), fun x hx => ?_⟩
  refine foldE_rows (n := 1048576) l [] h.2 (by simp) x ?_
  unfold finE at hx
  split at hx
  · simp at hx
  · split at hx
    · simp at hx
    · exact (List.mem_filter.mp hx).1
theorem l2Row_eq (l : List Int) (h : l.length ≤ 1048576) : spec_l2Row.f l = some l := by
  unfold spec_l2Row.f
  simp only [Option.bind_some, List.nil_append]
  rw [if_pos (by simp only [List.length_nil]; omega)]
theorem rdE_at {xs : List S42} {i : Nat} (h : i < xs.length) : rd_T42 xs (i : Int) = xs[i] := by simp [rd_T42, h]
theorem rdE_drop {xs : List S42} {i : Nat} (h : i < xs.length) : xs.drop i = rd_T42 xs (i : Int) :: xs.drop (i + 1) := by
  rw [rdE_at h]; exact List.drop_eq_getElem_cons h
theorem rdE_mem {xs : List S42} {i : Nat} (h : i < xs.length) : rd_T42 xs (i : Int) ∈ xs := by
  rw [rdE_at h]; exact List.getElem_mem h
def conv (x : S64) : S42 := ⟨x.f0, x.f1⟩
def szGo : Int → List S64 → Int
  | t, [] => t
  | t, x :: xs => if t - (x.f0.length : Int) < 0 then -1 else szGo (t - (x.f0.length : Int)) xs
def szE (t : Int) (l : List S64) : Int := if t - (l.length : Int) < 0 then -1 else szGo (t - (l.length : Int)) l
theorem szGo_le : ∀ (l : List S64) (t : Int), 0 ≤ szGo t l → szGo t l ≤ t ∧ ∀ x ∈ l, (x.f0.length : Int) ≤ t
  | [], t, h => ⟨Int.le_refl _, by simp⟩
  | x :: xs, t, h => by
    unfold szGo at h ⊢
    by_cases hc : t - (x.f0.length : Int) < 0
    · rw [if_pos hc] at h; omega
    · rw [if_neg hc] at h ⊢
      have ih := szGo_le xs _ h
      refine ⟨by omega, fun y hy => ?_⟩
      rcases List.mem_cons.1 hy with rfl | hy
      · omega
      · have := ih.2 y hy; omega
theorem szE_le {t : Int} {l : List S64} (h : 0 ≤ szE t l) : (l.length : Int) ≤ t ∧ szE t l ≤ t ∧ ∀ x ∈ l, (x.f0.length : Int) ≤ t := by
  unfold szE at h ⊢
  by_cases hc : t - (l.length : Int) < 0
  · rw [if_pos hc] at h; omega
  · rw [if_neg hc] at h ⊢
    have := szGo_le l _ h
    refine ⟨by omega, by omega, fun x hx => ?_⟩
    have := this.2 x hx
    omega
theorem l2Put_j1 (xs : List S42) (row : List Int) (w : Int) (hl : xs.length ≤ 1048576) (hx : ∀ x ∈ xs, x.f0.length ≤ 1048576) (hr : row.length ≤ 1048576) (i : Nat) (hi : i ≤ xs.length) (h2 : ∀ (hi : i < xs.length), ¬ cmpR xs[i].f0 row < 0) :
    Ev (fun k => spec_l2Put.j1 k xs (i : Int) row w) (xs.take i ++ putE (xs.drop i) ⟨row, w⟩) := by
  have len : (xs.take i).length = i := by rw [List.length_take]; omega
  have len2 : (xs.drop i).length = xs.length - i := List.length_drop
  refine Kit.Ev.up ?_
  simp only [spec_l2Put.j1, Option.bind_some, List.nil_append, l2Row_eq _ hr, Int.toNat_natCast]
  by_cases hlt : i < xs.length
  · have hd : xs.drop i = xs[i] :: xs.drop (i + 1) := List.drop_eq_getElem_cons hlt
    have hm := hx _ (List.getElem_mem hlt)
    simp only [rdE_at hlt]
    refine Kit.Ev.pos (by omega) (Kit.Ev.pos (by omega) (Kit.Ev.then (specCmp_ev _ row (by omega)) ?_))
    by_cases h0 : cmpR xs[i].f0 row = 0
    · refine Kit.Ev.pos h0 (Kit.Ev.const ?_)
      rw [hd, List.set_eq_take_append_cons_drop, if_pos hlt]
      unfold putE
      rw [if_neg (h2 hlt), if_pos h0]
    · refine Kit.Ev.neg h0 (Kit.Ev.pos (by omega) (Kit.Ev.pos (by simp only [List.length_nil, len]; omega) (Kit.Ev.pos (by rw [len]; omega) (Kit.Ev.pos (by simp only [List.length_append, len, len2, List.length_cons, List.length_nil]; omega) (Kit.Ev.const ?_)))))
      rw [hd]
      unfold putE
      rw [if_neg (h2 hlt), if_neg h0, List.append_assoc]; rfl
  · have hd : xs.drop i = [] := List.drop_eq_nil_of_le (by omega)
    refine Kit.Ev.neg (by omega) (Kit.Ev.pos (by omega) (Kit.Ev.pos (by omega) (Kit.Ev.pos (by simp only [List.length_nil, len]; omega) (Kit.Ev.pos (by rw [len]; omega) (Kit.Ev.pos (by simp only [List.length_append, len, len2, List.length_cons, List.length_nil]; omega) (Kit.Ev.const ?_))))))
    rw [hd]
    unfold putE
    rw [List.append_nil]
theorem l2Put_l0 (xs : List S42) (row : List Int) (w : Int) (hl : xs.length ≤ 1048576) (hx : ∀ x ∈ xs, x.f0.length ≤ 1048576) (hr : row.length ≤ 1048576) : ∀ (d i : Nat), i + d = xs.length → Ev (fun k => spec_l2Put.l0 k xs (i : Int) row w) (xs.take i ++ putE (xs.drop i) ⟨row, w⟩) := by
  intro d
  induction d with
  | zero =>
    intro i hd
    refine Kit.Ev.up ?_
    simp only [spec_l2Put.l0]
    exact Kit.Ev.neg (by omega) (l2Put_j1 xs row w hl hx hr i (by omega) (fun h => by omega))
  | succ d ih =>
    intro i hd
    have hlt : i < xs.length := by omega
    have hdr : xs.drop i = xs[i] :: xs.drop (i + 1) := List.drop_eq_getElem_cons hlt
    have hm := hx _ (List.getElem_mem hlt)
    refine Kit.Ev.up ?_
    simp only [spec_l2Put.l0, rdE_at hlt]
    refine Kit.Ev.pos (by omega) (Kit.Ev.pos (by omega) (Kit.Ev.then (specCmp_ev _ row (by omega)) ?_))
    by_cases h : cmpR xs[i].f0 row < 0
    · refine Kit.Ev.pos h ?_
      rw [w64n (n := xs.length) (by omega) (by omega)]
      refine (ih (i + 1) (by omega)).eq ?_
      rw [hdr, List.take_add_one, List.getElem?_eq_getElem hlt, List.append_assoc]
      show _ = _ ++ putE (xs[i] :: _) _
      conv => rhs; unfold putE
      rw [if_pos h]; rfl
    · exact Kit.Ev.neg h (l2Put_j1 xs row w hl hx hr i (by omega) (fun _ => h))
theorem l2Put_ev (xs : List S42) (row : List Int) (w : Int) (hl : xs.length ≤ 1048576) (hx : ∀ x ∈ xs, x.f0.length ≤ 1048576) (hr : row.length ≤ 1048576) : Ev (fun k => spec_l2Put.f k xs row w) (putE xs ⟨row, w⟩) := by
  unfold spec_l2Put.f
  exact l2Put_l0 xs row w hl hx hr xs.length 0 (by omega)
theorem l2Set_l1 (all : List S42) (hl : all.length ≤ 1048576) : ∀ (d i : Nat) (out : List S42), i + d = all.length → out.length ≤ i → Ev (fun k => spec_l2Set.l1 k all out (i : Int)) (if (all.drop i).any badE = true then ([], 8) else if 200 < (out ++ (all.drop i).filter nzE).length then ([], 2) else (out ++ (all.drop i).filter nzE, 0)) := by
  intro d
  induction d with
  | zero =>
    intro i out hd ho
    refine Kit.Ev.up ?_
    simp only [spec_l2Set.l1]
    refine Kit.Ev.neg (by omega) ?_
    rw [List.drop_eq_nil_of_le (by omega)]
    simp only [List.any_nil, Bool.false_eq_true, if_false, List.filter_nil, List.append_nil]
    by_cases h : 200 < out.length
    · rw [if_pos h]; exact Kit.Ev.pos (by omega) (Kit.Ev.const rfl)
    · rw [if_neg h]; exact Kit.Ev.neg (by omega) (Kit.Ev.const rfl)
  | succ d ih =>
    intro i out hd ho
    have hlt : i < all.length := by omega
    have hdr : all.drop i = all[i] :: all.drop (i + 1) := List.drop_eq_getElem_cons hlt
    refine Kit.Ev.up ?_
    simp only [spec_l2Set.l1, rdE_at hlt, specWeight_eq, Option.bind_some]
    rw [hdr, List.any_cons, List.filter_cons, w64n (n := all.length) (by omega) (by omega)]
    refine Kit.Ev.pos (by omega) (Kit.Ev.pos (by omega) ?_)
    by_cases hw : isW all[i].f1 = true
    · have hb : badE all[i] = false := by unfold badE; rw [hw]; rfl
      rw [hb, Bool.false_or]
      refine Kit.Ev.pos hw ?_
      by_cases hz : all[i].f1 = 0
      · have hn : nzE all[i] = false := by unfold nzE; simp [hz]
        simp only [hn, Bool.false_eq_true, if_false]
        exact Kit.Ev.pos hz (ih (i + 1) out (by omega) (by omega))
      · have hn : nzE all[i] = true := by unfold nzE; simp [hz]
        rw [if_pos hn]
        refine Kit.Ev.neg hz (Kit.Ev.pos (by omega) ?_)
        refine (ih (i + 1) (out ++ [all[i]]) (by omega) (by rw [List.length_append]; simp only [List.length_cons, List.length_nil]; omega)).eq ?_
        rw [List.append_assoc]; rfl
    · have hb : badE all[i] = true := by unfold badE; simp only [Bool.not_eq_true] at hw; rw [hw]; rfl
      rw [hb, Bool.true_or, if_pos rfl]
      exact Kit.Ev.neg hw (Kit.Ev.const rfl)
theorem l2Set_l0 (xs : List S42) (hx : Fine xs) : ∀ (d i : Nat) (acc : List S42), i + d = xs.length → acc.length ≤ i → (∀ x ∈ acc, x.f0.length ≤ 1048576) → Ev (fun k => spec_l2Set.l0 k xs acc (i : Int)) (finE ((xs.drop i).foldl putE acc)) := by
  have hl := hx.1
  intro d
  induction d with
  | zero =>
    intro i acc hd ha hr
    refine Kit.Ev.up ?_
    simp only [spec_l2Set.l0]
    refine Kit.Ev.neg (by omega) ?_
    rw [List.drop_eq_nil_of_le (by omega), List.foldl_nil]
    exact l2Set_l1 acc (by omega) acc.length 0 [] (by omega) (by simp)
  | succ d ih =>
    intro i acc hd ha hr
    have hlt : i < xs.length := by omega
    have hm := hx.2 _ (List.getElem_mem hlt)
    have hpl := putE_len acc xs[i]
    refine Kit.Ev.up ?_
    simp only [spec_l2Set.l0, rdE_at hlt]
    rw [List.drop_eq_getElem_cons hlt, List.foldl_cons, w64n (n := xs.length) (by omega) hx.n]
    refine Kit.Ev.pos (by omega) (Kit.Ev.pos (by omega) (Kit.Ev.then (l2Put_ev acc xs[i].f0 xs[i].f1 (by omega) hr hm) ?_))
    exact ih (i + 1) (putE acc xs[i]) (by omega) (by omega) (putE_rows acc xs[i] hr hm)
theorem l2Set_ev (xs : List S42) (hx : Fine xs) : Ev (fun k => spec_l2Set.f k xs) (sumF xs) := by
  unfold spec_l2Set.f
  rw [sumF_fin]
  exact l2Set_l0 xs hx xs.length 0 [] (by omega) (by simp) (by simp)
theorem summed_eq (xs : List S42) (hx : Fine xs) (hw : ∀ x ∈ xs, -9223372036854775808 ≤ x.f1 ∧ x.f1 ≤ 9223372036854775807) : impl_summed.f xs = some (sumF xs) := by
  unfold impl_summed.f
  rw [if_pos ⟨hx.1, fun x hx' => ⟨hx.2 x hx', hw x hx'⟩⟩]
  rfl
def longB (w : Int) (l : List S42) : Bool := l.all (fun x => decide (w ≤ (x.f0.length : Int)))
theorem indexE_l0 (p : Nat → List Int → Int → Option Bool) (q : List Int → Int → Bool) (xs : List S42) (hn : xs.length ≤ 1048576) (hp : ∀ x ∈ xs, Ev (fun k => p k x.f0 x.f1) (q x.f0 x.f1)) : ∀ (d i : Nat), i + d = xs.length → ∃ r : Int, Ev (fun k => indexE.l0 p k xs (xs.length : Int) (i : Int)) r ∧ (0 ≤ r ↔ (xs.drop i).any (fun x => q x.f0 x.f1) = true) := by
  intro d
  induction d with
  | zero =>
    intro i hd
    refine ⟨-1, Kit.Ev.up ?_, ?_⟩
    · simp only [indexE.l0]
      exact Kit.Ev.neg (by omega) (Kit.Ev.const rfl)
    · rw [List.drop_eq_nil_of_le (by omega)]; simp
  | succ d ih =>
    intro i hd
    have hr := rdE_drop (xs := xs) (i := i) (by omega)
    have hm := hp _ (rdE_mem (xs := xs) (i := i) (by omega))
    by_cases h : q (rd_T42 xs (i : Int)).f0 (rd_T42 xs (i : Int)).f1 = true
    · rw [h] at hm
      refine ⟨(i : Int), Kit.Ev.up ?_, ?_⟩
      · simp only [indexE.l0]
        exact Kit.Ev.pos (by omega) (Kit.Ev.pos (by omega) (Kit.Ev.pos (by omega) (Kit.Ev.then hm (Kit.Ev.pos rfl (Kit.Ev.const rfl)))))
      · rw [hr, List.any_cons, h]
        constructor
        · intro _; rfl
        · intro _; omega
    · obtain ⟨r, e, hiff⟩ := ih (i + 1) (by omega)
      have h' : q (rd_T42 xs (i : Int)).f0 (rd_T42 xs (i : Int)).f1 = false := by simpa using h
      rw [h'] at hm
      refine ⟨r, Kit.Ev.up ?_, ?_⟩
      · simp only [indexE.l0]
        rw [w64n (n := xs.length) (by omega) (by omega)]
        exact Kit.Ev.pos (by omega) (Kit.Ev.pos (by omega) (Kit.Ev.pos (by omega) (Kit.Ev.then hm (Kit.Ev.neg (by decide) e))))
      · rw [hr, List.any_cons, h', Bool.false_or]
        exact hiff
theorem containsE_ev (p : Nat → List Int → Int → Option Bool) (q : List Int → Int → Bool) (xs : List S42) (hn : xs.length ≤ 1048576) (hp : ∀ x ∈ xs, Ev (fun k => p k x.f0 x.f1) (q x.f0 x.f1)) : Ev (fun k => containsE.f p k xs) (xs.any (fun x => q x.f0 x.f1)) := by
  unfold containsE.f indexE.f
  obtain ⟨r, e, h⟩ := indexE_l0 p q xs hn hp xs.length 0 (by omega)
  refine Kit.Ev.then e (Kit.Ev.const ?_)
  rw [List.drop_zero] at h
  cases c : xs.any (fun x => q x.f0 x.f1) with
  | true => rw [c] at h; have := h.mpr rfl; simp; omega
  | false => rw [c] at h; have : ¬ 0 ≤ r := fun g => by simpa using h.mp g
             simp; omega
theorem areLong_ev (w : Int) (xs : List S42) (hn : xs.length ≤ 1048576) : Ev (fun k => impl_areLong.f k xs w) (longB w xs) := by
  unfold impl_areLong.f
  refine Kit.Ev.then (containsE_ev _ (fun l _ => decide ((l.length : Int) < w)) xs hn (fun x _ => Kit.Ev.const rfl)) (Kit.Ev.const ?_)
  congr 1
  unfold longB
  rw [Bool.eq_iff_iff]
  simp only [Bool.not_eq_true', List.any_eq_false, decide_eq_true_eq, List.all_eq_true]
  constructor
  · intro h x hx; have := h x hx; omega
  · intro h x hx; have := h x hx; omega
theorem specShort_l0 (w : Int) (xs : List S42) (hn : xs.length ≤ 1048576) : ∀ (d i : Nat), i + d = xs.length → Ev (fun k => spec_l4Short.l0 k xs w (i : Int)) (!longB w (xs.drop i)) := by
  intro d
  induction d with
  | zero =>
    intro i hd
    refine Kit.Ev.up ?_
    simp only [spec_l4Short.l0]
    refine Kit.Ev.neg (by omega) (Kit.Ev.const ?_)
    rw [List.drop_eq_nil_of_le (by omega)]; simp [longB]
  | succ d ih =>
    intro i hd
    refine Kit.Ev.up ?_
    simp only [spec_l4Short.l0]
    rw [rdE_drop (xs := xs) (i := i) (by omega), w64n (n := xs.length) (by omega) (by omega)]
    refine Kit.Ev.pos (by omega) (Kit.Ev.pos (by omega) (Kit.Ev.ite (fun h => Kit.Ev.const ?_) (fun h => (ih (i + 1) (by omega)).eq ?_)))
    · have : ¬ w ≤ ((rd_T42 xs (i : Int)).f0.length : Int) := by omega
      simp [longB, this]
    · have : w ≤ ((rd_T42 xs (i : Int)).f0.length : Int) := by omega
      simp [longB, this]
theorem specShort_ev (w : Int) (xs : List S42) (hn : xs.length ≤ 1048576) : Ev (fun k => spec_l4Short.f k xs w) (!longB w xs) := by
  unfold spec_l4Short.f
  exact (specShort_l0 w xs hn xs.length 0 (by omega)).eq (by simp)
/-- What a mark writes: count by count. -/
def seqF (f : Int → Int) (a : Int) : Nat → List Int
  | 0 => []
  | n + 1 => f a :: seqF f (a + 1) n
theorem seqF_len (f : Int → Int) : ∀ (n : Nat) (a : Int), (seqF f a n).length = n
  | 0, _ => rfl
  | n + 1, a => by simp only [seqF, List.length_cons, seqF_len f n]
theorem rd_mid (pre rest : List Int) (x : Int) : rd (pre ++ x :: rest) (pre.length : Int) = x := by
  rw [Kit.rd_nat, List.getD_eq_getElem?_getD, List.getElem?_append_right (Nat.le_refl _)]
  simp
theorem markInt64S_l0 : ∀ (rest pre : List Int) (a : Int), 0 ≤ a → a + rest.length ≤ 4611686018427387904 → pre.length + rest.length ≤ 4611686018427387904 → Ev (fun k => laws_markInt64S.l0 k (pre ++ rest) a (pre.length : Int)) (a + rest.length, pre ++ seqF (fun x => x) a rest.length)
  | [], pre, a, h0, h1, h2 => by
    refine Kit.Ev.up ?_
    simp only [laws_markInt64S.l0]
    exact Kit.Ev.neg (by simp) (Kit.Ev.const (by simp [seqF]))
  | x :: rest, pre, a, h0, h1, h2 => by
    simp only [List.length_cons] at h1 h2
    refine Kit.Ev.up ?_
    simp only [laws_markInt64S.l0]
    refine Kit.Ev.pos (by simp only [List.length_append, List.length_cons]; omega) (Kit.Ev.pos (by omega) ?_)
    have el : wrap64 ((pre.length : Int) + 1) = ((pre ++ [a]).length : Int) := by rw [Kit.w64 (by omega) (by omega)]; simp
    have es : (pre ++ x :: rest).set (pre.length : Int).toNat (a) = (pre ++ [a]) ++ rest := by simp
    rw [es, el, Kit.w64 (x := a + 1) (by omega) (by omega)]
    refine (markInt64S_l0 rest (pre ++ [a]) (a + 1) (by omega) (by omega) (by rw [List.length_append]; simp only [List.length_cons, List.length_nil]; omega)).eq ?_
    refine Prod.ext ?_ ?_
    · simp only [List.length_cons]; omega
    · simp only [List.length_cons, seqF, List.append_assoc, List.cons_append, List.nil_append]
theorem markInt64S_ev (l : List Int) (a : Int) (h0 : 0 ≤ a) (h1 : a + l.length ≤ 4611686018427387904) : Ev (fun k => laws_markInt64S.f k l a) (a + l.length, seqF (fun x => x) a l.length) := by
  unfold laws_markInt64S.f
  exact markInt64S_l0 l [] a h0 h1 (by simp only [List.length_nil]; omega)
theorem heldInt64S_l0 : ∀ (n : Nat) (pre : List Int) (a : Int), 0 ≤ a → a + n ≤ 4611686018427387904 → pre.length + n ≤ 4611686018427387904 → Ev (fun k => laws_heldInt64S.l0 k (pre ++ seqF (fun x => x) a n) a (pre.length : Int)) (a + n)
  | 0, pre, a, h0, h1, h2 => by
    refine Kit.Ev.up ?_
    simp only [laws_heldInt64S.l0, seqF]
    exact Kit.Ev.neg (by simp) (Kit.Ev.const (by simp))
  | n + 1, pre, a, h0, h1, h2 => by
    refine Kit.Ev.up ?_
    simp only [laws_heldInt64S.l0, seqF]
    refine Kit.Ev.pos (by simp only [List.length_append, List.length_cons]; omega) (Kit.Ev.pos (by omega) (Kit.Ev.pos (rd_mid _ _ _) ?_))
    have el : wrap64 ((pre.length : Int) + 1) = ((pre ++ [a]).length : Int) := by rw [Kit.w64 (by omega) (by omega)]; simp
    have es : pre ++ (a) :: seqF (fun x => x) (a + 1) n = (pre ++ [a]) ++ seqF (fun x => x) (a + 1) n := by simp
    rw [es, el, Kit.w64 (x := a + 1) (by omega) (by omega)]
    exact (heldInt64S_l0 n (pre ++ [a]) (a + 1) (by omega) (by omega) (by rw [List.length_append]; simp only [List.length_cons, List.length_nil]; omega)).eq (by omega)
theorem heldInt64S_ev (n : Nat) (a : Int) (h0 : 0 ≤ a) (h1 : a + n ≤ 4611686018427387904) : Ev (fun k => laws_heldInt64S.f k (seqF (fun x => x) a n) a) (a + n) := by
  unfold laws_heldInt64S.f
  exact heldInt64S_l0 n [] a h0 h1 (by simp only [List.length_nil]; omega)
/-- Several answers, and one number of rounds for all. -/
theorem evs_both {α β : Type} {g : Nat → Option α} {h : Nat → Option β} {r : α} {s : β} (a : Ev g r) (b : Ev h s) : ∃ K, ∀ k, K ≤ k → g k = some r ∧ h k = some s := by
  obtain ⟨K, a⟩ := a
  obtain ⟨K', b⟩ := b
  exact ⟨max K K', fun k hk => ⟨a k (by omega), b k (by omega)⟩⟩
def Late (p : Nat → Prop) : Prop := ∃ K, ∀ k, K ≤ k → p k
theorem Late.of {α : Type} {g : Nat → Option α} {r : α} (h : Ev g r) : Late (fun k => g k = some r) := h
theorem Late.and {p q : Nat → Prop} (a : Late p) (b : Late q) : Late (fun k => p k ∧ q k) := by
  obtain ⟨K, a⟩ := a
  obtain ⟨K', b⟩ := b
  exact ⟨max K K', fun k hk => ⟨a k (by omega), b k (by omega)⟩⟩
theorem Late.ex {p : Nat → Prop} (a : Late p) : ∃ k, p k := by
  obtain ⟨K, a⟩ := a
  exact ⟨K, a K (Nat.le_refl _)⟩
def cellsE : List S42 → Nat
  | [] => 0
  | x :: xs => x.f0.length + 1 + cellsE xs
def seqE (a : Int) : List S42 → List S42
  | [] => []
  | x :: xs => ⟨seqF (fun x => x) a x.f0.length, a + x.f0.length⟩ :: seqE (a + x.f0.length + 1) xs
theorem cellsE_le : ∀ {l : List S42}, (∀ x ∈ l, x.f0.length ≤ 1048576) → cellsE l ≤ 1048577 * l.length
  | [], _ => Nat.le_refl _
  | x :: l, h => by
    have := h x (by simp)
    have := cellsE_le (l := l) (fun y hy => h y (by simp [hy]))
    simp only [cellsE, List.length_cons]; omega
theorem Fine.cells {l : List S42} (h : Fine l) : cellsE l ≤ 1099512676352 + 1048576 := by
  have := cellsE_le h.2
  have := h.1
  omega
theorem getD_midE (pre rest : List S42) (x z : S42) : (pre ++ x :: rest).getD ((pre.length : Int)).toNat z = x := by
  rw [Int.toNat_natCast, List.getD_eq_getElem?_getD, List.getElem?_append_right (Nat.le_refl _)]
  simp
theorem markE_l0 : ∀ (rest pre : List S42) (a : Int), 0 ≤ a → a + cellsE rest ≤ 4611686018427387904 → pre.length + rest.length ≤ 4611686018427387904 → Ev (fun k => laws_markEntryS.l0 k (pre ++ rest) a (pre.length : Int)) (a + cellsE rest, pre ++ seqE a rest)
  | [], pre, a, h0, h1, h2 => by
    refine Kit.Ev.up ?_
    simp only [laws_markEntryS.l0]
    exact Kit.Ev.neg (by simp) (Kit.Ev.const (by simp [seqE, cellsE]))
  | x :: rest, pre, a, h0, h1, h2 => by
    simp only [List.length_cons, cellsE] at h1 h2
    refine Kit.Ev.up ?_
    simp only [laws_markEntryS.l0]
    rw [getD_midE]
    refine Kit.Ev.pos (by simp only [List.length_append, List.length_cons]; omega) (Kit.Ev.pos (by omega) (Kit.Ev.then (markInt64S_ev x.f0 a h0 (by omega)) ?_))
    simp only
    have el : wrap64 ((pre.length : Int) + 1) = ((pre ++ [(⟨seqF (fun x => x) a x.f0.length, a + x.f0.length⟩ : S42)]).length : Int) := by rw [Kit.w64 (by omega) (by omega)]; simp
    have es : (pre ++ x :: rest).set (pre.length : Int).toNat (⟨seqF (fun x => x) a x.f0.length, a + x.f0.length⟩ : S42) = (pre ++ [⟨seqF (fun x => x) a x.f0.length, a + x.f0.length⟩]) ++ rest := by simp
    rw [es, el, Kit.w64 (x := a + x.f0.length + 1) (by omega) (by omega)]
    refine (markE_l0 rest (pre ++ [⟨seqF (fun x => x) a x.f0.length, a + x.f0.length⟩]) (a + x.f0.length + 1) (by omega) (by omega) (by rw [List.length_append]; simp only [List.length_cons, List.length_nil]; omega)).eq ?_
    refine Prod.ext ?_ ?_
    · simp only [cellsE]; omega
    · simp only [seqE, List.append_assoc, List.cons_append, List.nil_append]
theorem markE_ev (l : List S42) (a : Int) (h0 : 0 ≤ a) (h1 : a + cellsE l ≤ 4611686018427387904) (h2 : l.length ≤ 4611686018427387904) : Ev (fun k => laws_markEntryS.f k l a) (a + cellsE l, seqE a l) := by
  unfold laws_markEntryS.f
  exact markE_l0 l [] a h0 h1 (by simp only [List.length_nil]; omega)
theorem heldE_l0 : ∀ (rest pre : List S42) (a : Int), 0 ≤ a → a + cellsE rest ≤ 4611686018427387904 → pre.length + rest.length ≤ 4611686018427387904 → Ev (fun k => laws_heldEntryS.l0 k (pre ++ seqE a rest) a (pre.length : Int)) (a + cellsE rest)
  | [], pre, a, h0, h1, h2 => by
    refine Kit.Ev.up ?_
    simp only [laws_heldEntryS.l0, seqE]
    exact Kit.Ev.neg (by simp) (Kit.Ev.const (by simp [cellsE]))
  | x :: rest, pre, a, h0, h1, h2 => by
    simp only [List.length_cons, cellsE] at h1 h2
    refine Kit.Ev.up ?_
    simp only [laws_heldEntryS.l0, seqE, rd_T42, getD_midE]
    refine Kit.Ev.pos (by simp only [List.length_append, List.length_cons]; omega) (Kit.Ev.pos (by omega) (Kit.Ev.then (heldInt64S_ev x.f0.length a h0 (by omega)) (Kit.Ev.neg (by omega) (Kit.Ev.pos rfl ?_))))
    have el : wrap64 ((pre.length : Int) + 1) = ((pre ++ [(⟨seqF (fun x => x) a x.f0.length, a + x.f0.length⟩ : S42)]).length : Int) := by rw [Kit.w64 (by omega) (by omega)]; simp
    have es : pre ++ (⟨seqF (fun x => x) a x.f0.length, a + x.f0.length⟩ : S42) :: seqE (a + x.f0.length + 1) rest = (pre ++ [⟨seqF (fun x => x) a x.f0.length, a + x.f0.length⟩]) ++ seqE (a + x.f0.length + 1) rest := by simp
    rw [es, el, Kit.w64 (x := a + x.f0.length + 1) (by omega) (by omega)]
    refine (heldE_l0 rest (pre ++ [⟨seqF (fun x => x) a x.f0.length, a + x.f0.length⟩]) (a + x.f0.length + 1) (by omega) (by omega) (by rw [List.length_append]; simp only [List.length_cons, List.length_nil]; omega)).eq ?_
    simp only [cellsE]; omega
theorem heldE_ev (l : List S42) (a : Int) (h0 : 0 ≤ a) (h1 : a + cellsE l ≤ 4611686018427387904) (h2 : l.length ≤ 4611686018427387904) : Ev (fun k => laws_heldEntryS.f k (seqE a l) a) (a + cellsE l) := by
  unfold laws_heldEntryS.f
  exact heldE_l0 l [] a h0 h1 (by simp only [List.length_nil]; omega)
theorem heldSet_ev (x : Int) (l : List S42) (a : Int) (h0 : 0 ≤ a) (h1 : a + cellsE l ≤ 4611686018427387904) (h2 : l.length ≤ 4611686018427387904) : Ev (fun k => laws_heldSetResult.f k x (seqE a l) a) (a + cellsE l) := by
  unfold laws_heldSetResult.f
  exact Kit.Ev.then (heldE_ev l a h0 h1 h2) (Kit.Ev.neg (by omega) (Kit.Ev.const rfl))
theorem markSet_ev (x : Int) (l : List S42) (a : Int) (h0 : 0 ≤ a) (h1 : a + cellsE l ≤ 4611686018427387904) (h2 : l.length ≤ 4611686018427387904) : Ev (fun k => laws_markSetResult.f k x l a) (a + cellsE l, seqE a l) := markE_ev l a h0 h1 h2
theorem eqEntryS_l0 (xs : List S42) (hn : xs.length ≤ 9223372036854775807) (hr : ∀ x ∈ xs, x.f0.length ≤ 9223372036854775807) : ∀ (d i : Nat), i + d = xs.length → Ev (fun k => laws_eqEntryS.l0 k xs xs (i : Int)) true := by
  intro d
  induction d with
  | zero =>
    intro i hd
    refine Kit.Ev.up ?_
    simp only [laws_eqEntryS.l0]
    exact Kit.Ev.neg (by omega) (Kit.Ev.const rfl)
  | succ d ih =>
    intro i hd
    refine Kit.Ev.up ?_
    simp only [laws_eqEntryS.l0, laws_eqEntry.f]
    refine Kit.Ev.pos (by omega) (Kit.Ev.pos (by omega) (Kit.Ev.pos (by omega) ?_))
    have hm := rdE_mem (xs := xs) (i := i) (by omega)
    refine Kit.Ev.then (a := true) (Kit.Ev.then (eqInt64S_refl _ (hr _ hm)) (Kit.Ev.pos rfl (Kit.Ev.pos (by trivial) (Kit.Ev.const rfl)))) ?_
    refine Kit.Ev.pos rfl ?_
    rw [w64n (n := xs.length) (by omega) hn]
    exact ih (i + 1) (by omega)
theorem eqEntryS_refl (xs : List S42) (hn : xs.length ≤ 9223372036854775807) (hr : ∀ x ∈ xs, x.f0.length ≤ 9223372036854775807) : Ev (fun k => laws_eqEntryS.f k xs xs) true := by
  unfold laws_eqEntryS.f
  exact Kit.Ev.pos rfl (eqEntryS_l0 xs hn hr xs.length 0 (by omega))
theorem eqSetR_refl (x : Int) (l : List S42) (hx : Fine l) : Ev (fun k => laws_eqSetResult.f k x l x l) true := by
  unfold laws_eqSetResult.f
  exact Kit.Ev.pos rfl (Kit.Ev.then (eqEntryS_refl l hx.n hx.r) (Kit.Ev.pos rfl (Kit.Ev.const rfl)))
def setG : Option (List Int) → List S42 → Int
  | _, [] => 0
  | p, x :: xs => if rowF x.f0 = 0 then (if isW x.f1 = true ∧ x.f1 ≠ 0 then (match p with | some q => if cmpR q x.f0 ≥ 0 then 1 else setG (some x.f0) xs | none => setG (some x.f0) xs) else 3) else rowF x.f0
def setF (l : List S42) : Int := if 200 < l.length then 2 else setG none l
def prevE (xs : List S42) (i : Nat) : Option (List Int) := if i = 0 then none else some (rd_T42 xs ((i - 1 : Nat) : Int)).f0
theorem prevE_succ (xs : List S42) (i : Nat) : prevE xs (i + 1) = some (rd_T42 xs (i : Int)).f0 := by simp [prevE]
theorem w64p {i : Nat} (h : 0 < i) (hn : i ≤ 9223372036854775807) : wrap64 ((i : Int) - 1) = ((i - 1 : Nat) : Int) := by
  rw [Kit.w64 (by omega) (by omega)]; omega
def negE (x : S42) : S42 := ⟨x.f0, -x.f1⟩
def negF (l : List S42) : Int × List S42 := if setF l = 0 then (0, l.map negE) else (setF l, [])
theorem setG_ok : ∀ (p : Option (List Int)) (l : List S42), setG p l = 0 → ∀ x ∈ l, rowF x.f0 = 0 ∧ isW x.f1 = true ∧ x.f1 ≠ 0
  | _, [], _, _, h => by simp at h
  | p, x :: xs, h, y, hy => by
    simp only [setG] at h
    by_cases h1 : rowF x.f0 = 0
    · rw [if_pos h1] at h
      by_cases h2 : isW x.f1 = true ∧ x.f1 ≠ 0
      · rw [if_pos h2] at h
        have hr : setG (some x.f0) xs = 0 := by
          cases p with
          | none => exact h
          | some q =>
            simp only at h
            by_cases h3 : cmpR q x.f0 ≥ 0
            · rw [if_pos h3] at h; omega
            · rw [if_neg h3] at h; exact h
        rcases List.mem_cons.mp hy with rfl | hy
        · exact ⟨h1, h2.1, h2.2⟩
        · exact setG_ok _ xs hr y hy
      · rw [if_neg h2] at h; omega
    · rw [if_neg h1] at h; exact absurd h h1
theorem setF_ok {l : List S42} (h : setF l = 0) : l.length ≤ 200 ∧ ∀ x ∈ l, rowF x.f0 = 0 ∧ isW x.f1 = true ∧ x.f1 ≠ 0 := by
  unfold setF at h
  by_cases h1 : 200 < l.length
  · rw [if_pos h1] at h; omega
  · rw [if_neg h1] at h; exact ⟨by omega, setG_ok _ _ h⟩
theorem isW_in {x : Int} (h : isW x = true) : -1000000000000 ≤ x ∧ x ≤ 1000000000000 := by
  simpa [isW] using h
def cellB (c : Int) : List Int := [((c + 549755813888) / 4294967296) % 256, ((c + 549755813888) / 16777216) % 256, ((c + 549755813888) / 65536) % 256, ((c + 549755813888) / 256) % 256, (c + 549755813888) % 256]
def packR (r : List Int) : List Int := ((r.length : Int) % 256) :: r.flatMap cellB
def packG : List Int → List (List Int) → Int × List Int
  | out, [] => (0, out)
  | out, r :: rs => if rowF r = 0 then packG (out ++ packR r) rs else (rowF r, [])
def packV (rows : List (List Int)) : Int × List Int := if 60 < rows.length then (2, []) else packG [] rows
theorem rowF_zero {r : List Int} (h : rowF r = 0) : r.length ≤ 4 ∧ ∀ x ∈ r, -1000000000 ≤ x ∧ x ≤ 1000000000 := by
  unfold rowF at h
  by_cases h1 : 4 < r.length
  · rw [if_pos h1] at h; omega
  · rw [if_neg h1] at h
    by_cases h2 : r.all inC = true
    · refine ⟨by omega, fun x hx => ?_⟩
      have := List.all_eq_true.mp h2 x hx
      simpa [inC] using this
    · rw [if_neg h2] at h; omega
theorem cells_len : ∀ r : List Int, (r.flatMap cellB).length = 5 * r.length
  | [] => rfl
  | x :: r => by rw [List.flatMap_cons, List.length_append, cells_len r]; simp only [cellB, List.length_cons, List.length_nil]; omega
theorem packR_len (r : List Int) : (packR r).length = 1 + 5 * r.length := by simp only [packR, List.length_cons, cells_len]; omega
theorem rd2_drop {xs : List (List Int)} {i : Nat} (h : i < xs.length) : xs.drop i = rd_L1 xs (i : Int) :: xs.drop (i + 1) := by
  rw [List.drop_eq_getElem_cons h]
  simp [rd_L1, List.getD_eq_getElem?_getD, List.getElem?_eq_getElem h]
theorem rd2_mem {xs : List (List Int)} {i : Nat} (h : i < xs.length) : rd_L1 xs (i : Int) ∈ xs := by
  simp only [rd_L1, Int.toNat_natCast, List.getD_eq_getElem?_getD, List.getElem?_eq_getElem h, Option.getD_some]
  exact List.getElem_mem h
theorem rd_mem {xs : List Int} {i : Nat} (h : i < xs.length) : rd xs (i : Int) ∈ xs := by
  rw [Kit.rd_at h]; exact List.getElem_mem h
theorem cmpR_zero : ∀ xs ys : List Int, cmpR xs ys = 0 ↔ xs = ys
  | [], [] => by simp [cmpR]
  | [], _ :: _ => by simp [cmpR]
  | _ :: _, [] => by simp [cmpR]
  | a :: xs, b :: ys => by
    simp only [cmpR]
    by_cases h1 : a < b
    · rw [if_pos h1]; simp; omega
    · by_cases h2 : b < a
      · rw [if_neg h1, if_pos h2]; simp; omega
      · rw [if_neg h1, if_neg h2, cmpR_zero xs ys]
        have : a = b := by omega
        simp [this]
theorem cmpR_in : ∀ xs ys : List Int, cmpR xs ys = -1 ∨ cmpR xs ys = 0 ∨ cmpR xs ys = 1
  | [], [] => by simp [cmpR]
  | [], _ :: _ => by simp [cmpR]
  | _ :: _, [] => by simp [cmpR]
  | a :: xs, b :: ys => by
    simp only [cmpR]
    by_cases h1 : a < b
    · rw [if_pos h1]; simp
    · by_cases h2 : b < a
      · rw [if_neg h1, if_pos h2]; simp
      · rw [if_neg h1, if_neg h2]; exact cmpR_in xs ys
theorem rdLE_at {xs : List S64} {i : Nat} (h : i < xs.length) : rd_T64 xs (i : Int) = xs[i] := by simp [rd_T64, h]
theorem rdLE_drop {xs : List S64} {i : Nat} (h : i < xs.length) : xs.drop i = rd_T64 xs (i : Int) :: xs.drop (i + 1) := by
  rw [rdLE_at h]; exact List.drop_eq_getElem_cons h
theorem rdLE_mem {xs : List S64} {i : Nat} (h : i < xs.length) : rd_T64 xs (i : Int) ∈ xs := by
  rw [rdLE_at h]; exact List.getElem_mem h
theorem szInt_eq {n : Nat} {l : List Int} {t : Int} (h0 : 0 ≤ t) (h1 : t ≤ 1048576) (hn : l.length = n) (hl : n ≤ 9223372036854775807) : laws_szInt64S.f l t = some (if t - (n : Int) < 0 then -1 else t - (n : Int)) := by
  unfold laws_szInt64S.f
  rw [hn, Kit.w64 (by omega) (by omega)]
  by_cases h : t - (n : Int) < 0
  · rw [if_pos h, if_pos h]
  · rw [if_neg h, if_neg h]
theorem szEntry_eq {l : List Int} {w t : Int} (h0 : 0 ≤ t) (h1 : t ≤ 1048576) (hl : l.length ≤ 9223372036854775807) : laws_szEntry.f l w t = some (if t - (l.length : Int) < 0 then -1 else t - (l.length : Int)) := by
  unfold laws_szEntry.f
  rw [szInt_eq h0 h1 rfl hl]
  simp only [Option.bind_some]
  by_cases h : t - (l.length : Int) < 0
  · rw [if_pos h, if_pos (by omega)]
  · rw [if_neg h, if_neg h]
theorem szEntryS_l0 (xs : List S64) (hn : xs.length ≤ 9223372036854775807) (hr : ∀ x ∈ xs, x.f0.length ≤ 9223372036854775807) : ∀ (d i : Nat) (t : Int), i + d = xs.length → 0 ≤ t → t ≤ 1048576 → Ev (fun k => laws_szEntryS.l0 k xs t (i : Int)) (szGo t (xs.drop i)) := by
  intro d
  induction d with
  | zero =>
    intro i t hd h0 h1
    refine Kit.Ev.up ?_
    simp only [laws_szEntryS.l0]
    refine Kit.Ev.neg (by omega) (Kit.Ev.const ?_)
    rw [List.drop_eq_nil_of_le (by omega)]; rfl
  | succ d ih =>
    intro i t hd h0 h1
    refine Kit.Ev.up ?_
    simp only [laws_szEntryS.l0]
    refine Kit.Ev.pos (by omega) (Kit.Ev.pos (by omega) ?_)
    rw [rdLE_drop (xs := xs) (i := i) (by omega), w64n (n := xs.length) (by omega) hn, szEntry_eq h0 h1 (hr _ (rdLE_mem (by omega)))]
    simp only [Option.bind_some, szGo]
    by_cases h : t - ((rd_T64 xs (i : Int)).f0.length : Int) < 0
    · rw [if_pos h]; exact Kit.Ev.pos (by omega) (Kit.Ev.const (by rw [if_pos h]))
    · rw [if_neg h, if_neg h]
      exact Kit.Ev.neg h (ih (i + 1) _ (by omega) (by omega) (by omega))
theorem szEntryS_ev (xs : List S64) (hn : xs.length ≤ 9223372036854775807) (hr : ∀ x ∈ xs, x.f0.length ≤ 9223372036854775807) {t : Int} (h0 : 0 ≤ t) (h1 : t ≤ 1048576) : Ev (fun k => laws_szEntryS.f k xs t) (szE t xs) := by
  unfold laws_szEntryS.f szE
  rw [Kit.w64 (by omega) (by omega)]
  by_cases h : t - (xs.length : Int) < 0
  · rw [if_pos h]; exact Kit.Ev.pos h (Kit.Ev.const rfl)
  · rw [if_neg h]; exact Kit.Ev.neg h (szEntryS_l0 xs hn hr xs.length 0 _ (by omega) (by omega) (by omega))
theorem toEntryS_l0 (xs : List S64) (hn : xs.length ≤ 9223372036854775807) (hr : ∀ x ∈ xs, x.f0.length ≤ 1048576) : ∀ (d i : Nat) (ys : List S42), i + d = xs.length → ys.length = xs.length → (∀ j, j < i → ys[j]? = (xs.map conv)[j]?) → Ev (fun k => laws_toEntryS.l0 k xs ys (i : Int)) (xs.map conv) := by
  intro d
  induction d with
  | zero =>
    intro i ys hd hl he
    refine Kit.Ev.up ?_
    simp only [laws_toEntryS.l0]
    refine Kit.Ev.neg (by omega) (Kit.Ev.const ?_)
    congr 1
    apply List.ext_getElem?
    intro j
    by_cases hj : j < i
    · exact he j hj
    · rw [List.getElem?_eq_none (by omega), List.getElem?_eq_none (by rw [List.length_map]; omega)]
  | succ d ih =>
    intro i ys hd hl he
    refine Kit.Ev.up ?_
    simp only [laws_toEntryS.l0, laws_toEntry.f]
    refine Kit.Ev.pos (by omega) (Kit.Ev.pos (by omega) ?_)
    have hm := rdLE_mem (xs := xs) (i := i) (by omega)
    refine Kit.Ev.then (a := ((rd_T64 xs (i : Int)).f0, (rd_T64 xs (i : Int)).f1)) (Kit.Ev.then (toInt64S_ev _ (hr _ hm)) (Kit.Ev.const rfl)) ?_
    refine Kit.Ev.pos (by omega) ?_
    rw [w64n (n := xs.length) (by omega) hn, Int.toNat_natCast]
    refine ih (i + 1) _ (by omega) (by simpa using hl) (fun j hj => ?_)
    rw [List.getElem?_set]
    by_cases e : i = j
    · subst e
      rw [if_pos rfl, if_pos (by omega), List.getElem?_map, List.getElem?_eq_getElem (by omega), rdLE_at (by omega)]
      rfl
    · rw [if_neg e]
      exact he j (by omega)
theorem toEntryS_ev (xs : List S64) (hn : xs.length ≤ 1048576) (hr : ∀ x ∈ xs, x.f0.length ≤ 1048576) : Ev (fun k => laws_toEntryS.f k xs) (xs.map conv) := by
  unfold laws_toEntryS.f
  refine Kit.Ev.pos (by omega) (Kit.Ev.pos (by omega) ?_)
  exact toEntryS_l0 xs (by omega) hr xs.length 0 _ (by omega) (by simp) (fun j hj => by omega)
/-- What a law over one list of entries begins with: too much, or what is laid is as it came in. -/
theorem input_of {l : List S64} (hl : (fun l : List S64 => l.length ≤ maxLen ∧ ∀ y ∈ l, (fun x : S64 => (fun l : List Int => l.length ≤ maxLen ∧ ∀ y ∈ l, (fun x : Int => (Lit.int .i64 x).wf = true) y) x.f0 ∧ (fun x : Int => (Lit.int .i64 x).wf = true) x.f1) y) l) {t : Int} (h0 : 0 ≤ t) (h1 : t ≤ 1048576) :
    Ev (fun k => laws_szEntryS.f k l t) (szE t l) ∧ (¬ szE t l < 0 → szE t l ≤ 1048576 ∧ 0 ≤ szE t l ∧ Fine (l.map conv) ∧ Ev (fun k => laws_toEntryS.f k l) (l.map conv)) := by
  have hm : ∀ n : Nat, n ≤ maxLen → n ≤ 9223372036854775807 := fun n h => by simp only [maxLen] at h; omega
  refine ⟨szEntryS_ev l (hm _ hl.1) (fun x hx => hm _ (hl.2 x hx).1.1) h0 h1, fun h => ?_⟩
  have hb := szE_le (t := t) (l := l) (by omega)
  have hr : ∀ x ∈ l, x.f0.length ≤ 1048576 := fun x hx => by have := hb.2.2 x hx; omega
  refine ⟨by omega, by omega, ⟨by rw [List.length_map]; omega, fun x hx => ?_⟩, toEntryS_ev l (by omega) hr⟩
  obtain ⟨y, hy, rfl⟩ := List.mem_map.1 hx
  exact hr y hy
theorem cmpR_anti : ∀ xs ys : List Int, cmpR xs ys = - cmpR ys xs
  | [], [] => rfl
  | [], _ :: _ => rfl
  | _ :: _, [] => rfl
  | a :: xs, b :: ys => by
    simp only [cmpR]
    have ih := cmpR_anti xs ys
    by_cases h1 : a < b
    · rw [if_pos h1, if_neg (by omega), if_pos h1]
    · by_cases h2 : b < a
      · rw [if_neg h1, if_pos h2, if_pos h2]; rfl
      · rw [if_neg h1, if_neg h2, if_neg h2, if_neg h1]; exact ih
theorem specSet_l0 (xs : List S42) (hx : Fine xs) : ∀ (d i : Nat), i + d = xs.length → Ev (fun k => spec_SetFault.l0 k xs (i : Int)) (setG (prevE xs i) (xs.drop i)) := by
  have hn := hx.n
  intro d
  induction d with
  | zero =>
    intro i hd
    refine Kit.Ev.up ?_
    simp only [spec_SetFault.l0]
    refine Kit.Ev.neg (by omega) (Kit.Ev.const ?_)
    rw [List.drop_eq_nil_of_le (by omega)]; simp [setG]
  | succ d ih =>
    intro i hd
    have hm := hx.r _ (rdE_mem (xs := xs) (i := i) (by omega))
    have hj : ∀ b : Bool, b = ! decide (isW (rd_T42 xs (i : Int)).f1 = true ∧ (rd_T42 xs (i : Int)).f1 ≠ 0) → rowF (rd_T42 xs (i : Int)).f0 = 0 → Ev (fun k => spec_SetFault.j1 k xs (i : Int) b) (setG (prevE xs i) (xs.drop i)) := by
      intro b hb hrow
      rw [rdE_drop (xs := xs) (i := i) (by omega)]
      simp only [setG]
      rw [if_pos hrow]
      refine Kit.Ev.up ?_
      simp only [spec_SetFault.j1]
      by_cases hw : isW (rd_T42 xs (i : Int)).f1 = true ∧ (rd_T42 xs (i : Int)).f1 ≠ 0
      · rw [if_pos hw]
        refine Kit.Ev.neg (by rw [hb]; simp [hw]) ?_
        by_cases h0 : i = 0
        · subst h0
          refine Kit.Ev.neg (by omega) ?_
          rw [w64n (n := xs.length) (by omega) hn]
          have := ih 1 (by omega)
          rw [show prevE xs 1 = some (rd_T42 xs ((0 : Nat) : Int)).f0 from prevE_succ xs 0] at this
          simpa [prevE] using this
        · refine Kit.Ev.pos (by omega) (Kit.Ev.pos (by omega) (Kit.Ev.pos (by omega) ?_))
          rw [w64p (by omega) (by omega)]
          refine Kit.Ev.pos (by omega) (Kit.Ev.pos (by omega) ?_)
          refine Kit.Ev.then (specCmp_ev _ _ hm) ?_
          rw [w64n (n := xs.length) (by omega) hn, show prevE xs i = some (rd_T42 xs ((i - 1 : Nat) : Int)).f0 from by simp [prevE, h0]]
          dsimp only
          rw [cmpR_anti (rd_T42 xs ((i - 1 : Nat) : Int)).f0]
          refine Kit.Ev.ite (fun hc => Kit.Ev.const ?_) (fun hc => ?_)
          · rw [if_pos (by omega)]
          · rw [if_neg (by omega), ← prevE_succ]
            exact ih (i + 1) (by omega)
      · rw [if_neg hw]
        exact Kit.Ev.pos (by rw [hb]; simp only [hw, decide_false]; rfl) (Kit.Ev.const rfl)
    refine Kit.Ev.up ?_
    simp only [spec_SetFault.l0]
    refine Kit.Ev.pos (by omega) (Kit.Ev.pos (by omega) (Kit.Ev.then (specRow_ev _ hm) ?_))
    refine Kit.Ev.ite (fun hrow => ?_) (fun hrow => Kit.Ev.const ?_)
    · rw [specWeight_eq]
      simp only [Option.bind_some]
      refine Kit.Ev.ite (fun hw => hj _ ?_ hrow) (fun hw => hj _ ?_ hrow)
      · by_cases hz : (rd_T42 xs (i : Int)).f1 = 0 <;> simp [hw, hz]
      · simp [hw]
    · rw [rdE_drop (xs := xs) (i := i) (by omega)]
      simp only [setG]
      rw [if_neg hrow]
theorem specSet_ev (xs : List S42) (hx : Fine xs) : Ev (fun k => spec_SetFault.f k xs) (setF xs) := by
  unfold spec_SetFault.f setF
  refine Kit.Ev.ite (fun h => Kit.Ev.const ?_) (fun h => ?_)
  · rw [if_pos (by omega)]
  · rw [if_neg (by omega)]
    exact (specSet_l0 xs hx xs.length 0 (by omega)).eq (by simp [prevE])
theorem implSet_l0 (xs : List S42) (hx : Fine xs) : ∀ (d i : Nat), i + d = xs.length → Ev (fun k => impl_SetFault.l0 k xs xs (xs.length : Int) (i : Int)) (setG (prevE xs i) (xs.drop i)) := by
  have hn := hx.n
  intro d
  induction d with
  | zero =>
    intro i hd
    refine Kit.Ev.up ?_
    simp only [impl_SetFault.l0]
    refine Kit.Ev.neg (by omega) (Kit.Ev.const ?_)
    rw [List.drop_eq_nil_of_le (by omega)]; simp [setG]
  | succ d ih =>
    intro i hd
    have hm := hx.r _ (rdE_mem (xs := xs) (i := i) (by omega))
    have hj : ∀ b : Bool, b = ! decide (isW (rd_T42 xs (i : Int)).f1 = true ∧ (rd_T42 xs (i : Int)).f1 ≠ 0) → rowF (rd_T42 xs (i : Int)).f0 = 0 → Ev (fun k => impl_SetFault.j1 k xs (i : Int) xs (xs.length : Int) (i : Int) b (rd_T42 xs (i : Int)).f0 (rd_T42 xs (i : Int)).f1) (setG (prevE xs i) (xs.drop i)) := by
      intro b hb hrow
      rw [rdE_drop (xs := xs) (i := i) (by omega)]
      simp only [setG]
      rw [if_pos hrow]
      refine Kit.Ev.up ?_
      simp only [impl_SetFault.j1]
      by_cases hw : isW (rd_T42 xs (i : Int)).f1 = true ∧ (rd_T42 xs (i : Int)).f1 ≠ 0
      · rw [if_pos hw]
        refine Kit.Ev.neg (by rw [hb]; simp [hw]) ?_
        by_cases h0 : i = 0
        · subst h0
          refine Kit.Ev.neg (by omega) ?_
          rw [w64n (n := xs.length) (by omega) hn]
          have := ih 1 (by omega)
          rw [show prevE xs 1 = some (rd_T42 xs ((0 : Nat) : Int)).f0 from prevE_succ xs 0] at this
          simpa [prevE] using this
        · refine Kit.Ev.pos (by omega) ?_
          rw [w64p (by omega) (by omega)]
          have hp := hx.r _ (rdE_mem (xs := xs) (i := i - 1) (by omega))
          refine Kit.Ev.pos (by omega) (Kit.Ev.pos (by omega) ?_)
          refine Kit.Ev.then (implCmp_ev _ _ hp) ?_
          rw [w64n (n := xs.length) (by omega) hn, show prevE xs i = some (rd_T42 xs ((i - 1 : Nat) : Int)).f0 from by simp [prevE, h0]]
          dsimp only
          refine Kit.Ev.ite (fun hc => Kit.Ev.const ?_) (fun hc => ?_)
          · rw [if_pos (by omega)]
          · rw [if_neg (by omega), ← prevE_succ]
            exact ih (i + 1) (by omega)
      · rw [if_neg hw]
        exact Kit.Ev.pos (by rw [hb]; simp only [hw, decide_false]; rfl) (Kit.Ev.const rfl)
    refine Kit.Ev.up ?_
    simp only [impl_SetFault.l0]
    refine Kit.Ev.pos (by omega) (Kit.Ev.pos (by omega) (Kit.Ev.pos (by omega) (Kit.Ev.then (implRow_ev _ hm) ?_)))
    refine Kit.Ev.ite (fun hrow => ?_) (fun hrow => Kit.Ev.const ?_)
    · rw [implWeight_eq]
      simp only [Option.bind_some]
      refine Kit.Ev.ite (fun hw => hj _ ?_ hrow) (fun hw => hj _ ?_ hrow)
      · by_cases hz : (rd_T42 xs (i : Int)).f1 = 0 <;> simp [hw, hz]
      · simp [hw]
    · rw [rdE_drop (xs := xs) (i := i) (by omega)]
      simp only [setG]
      rw [if_neg hrow]
theorem implSet_ev (xs : List S42) (hx : Fine xs) : Ev (fun k => impl_SetFault.f k xs) (setF xs) := by
  unfold impl_SetFault.f setF
  refine Kit.Ev.ite (fun h => Kit.Ev.const ?_) (fun h => ?_)
  · rw [if_pos (by omega)]
  · rw [if_neg (by omega)]
    exact (implSet_l0 xs hx xs.length 0 (by omega)).eq (by simp [prevE])
theorem setsFault_ev (a b : List S42) (ha : Fine a) (hb : Fine b) : Ev (fun k => impl_setsFault.f k [a, b]) (if setF a = 0 then setF b else setF a) := by
  have w1 : wrap64 (0 + 1) = 1 := Kit.w64 (by omega) (by omega)
  have w2 : wrap64 (1 + 1) = 2 := Kit.w64 (by omega) (by omega)
  unfold impl_setsFault.f
  refine Kit.Ev.up ?_
  simp only [impl_setsFault.l0, List.length_cons, List.length_nil]
  refine Kit.Ev.pos (by omega) (Kit.Ev.pos (by omega) (Kit.Ev.pos (by omega) (Kit.Ev.then (implSet_ev a ha) (Kit.Ev.ite2 (fun h1 => ?_) (fun _ => Kit.Ev.const rfl)))))
  rw [w1]
  refine Kit.Ev.up ?_
  simp only [impl_setsFault.l0, List.length_cons, List.length_nil]
  refine Kit.Ev.pos (by omega) (Kit.Ev.pos (by omega) (Kit.Ev.pos (by omega) (Kit.Ev.then (implSet_ev b hb) (Kit.Ev.ite (fun h2 => ?_) (fun _ => Kit.Ev.const rfl)))))
  rw [w2, h2]
  refine Kit.Ev.up ?_
  simp only [impl_setsFault.l0, List.length_cons, List.length_nil]
  exact Kit.Ev.neg (by omega) (Kit.Ev.const rfl)
/-- What an entry makes of a list of entries: those that meet it, put behind what is there; false where a product is no weight. -/
def joinRow (n : Nat) (x : S42) : List S42 → List S42 → List S42 × Bool
  | acc, [] => (acc, true)
  | acc, y :: ys => if x.f0.take n = y.f0.take n then (if (mulP x.f1 y.f1).2 = true then joinRow n x (acc ++ [⟨x.f0 ++ y.f0.drop n, (mulP x.f1 y.f1).1⟩]) ys else ([], false)) else joinRow n x acc ys
def joinAll (n : Nat) (b : List S42) : List S42 → List S42 → List S42 × Bool
  | acc, [] => (acc, true)
  | acc, x :: xs => if (joinRow n x acc b).2 = true then joinAll n b (joinRow n x acc b).1 xs else ([], false)
theorem mulP_small (a b : Int) : -1000000000000 ≤ (mulP a b).1 ∧ (mulP a b).1 ≤ 1000000000000 := by
  unfold mulP
  by_cases h : (a * b).natAbs ≤ 1000000000000
  · rw [if_pos h]; simp only; omega
  · rw [if_neg h]; simp only; omega
/-- The bounds of what is put together. -/
def JOk (m : Nat) (l : List S42) : Prop := l.length ≤ m ∧ ∀ x ∈ l, x.f0.length ≤ 8 ∧ -1000000000000 ≤ x.f1 ∧ x.f1 ≤ 1000000000000
theorem joinRow_ok (n : Nat) (x : S42) (hx : x.f0.length ≤ 4) : ∀ (ys acc : List S42) (m : Nat), (∀ y ∈ ys, y.f0.length ≤ 4) → JOk m acc → JOk (m + ys.length) (joinRow n x acc ys).1
  | [], acc, m, _, h => by simpa [joinRow] using h
  | y :: ys, acc, m, hy, h => by
    have hy0 := hy y (List.mem_cons_self ..)
    have hys : ∀ z ∈ ys, z.f0.length ≤ 4 := fun z hz => hy z (List.mem_cons_of_mem _ hz)
    unfold joinRow
    by_cases h1 : x.f0.take n = y.f0.take n
    · rw [if_pos h1]
      by_cases h2 : (mulP x.f1 y.f1).2 = true
      · rw [if_pos h2]
        have := joinRow_ok n x hx ys (acc ++ [⟨x.f0 ++ y.f0.drop n, (mulP x.f1 y.f1).1⟩]) (m + 1) hys ⟨by rw [List.length_append]; simp only [List.length_cons, List.length_nil]; have := h.1; omega, fun z hz => by
          rcases List.mem_append.mp hz with hz | hz
          · exact h.2 z hz
          · rw [List.mem_singleton.mp hz]
            refine ⟨?_, mulP_small ..⟩
            rw [List.length_append, List.length_drop]; omega⟩
        rw [List.length_cons, show m + (ys.length + 1) = m + 1 + ys.length by omega]
        exact this
      · rw [if_neg h2]; exact ⟨by simp, by simp⟩
    · rw [if_neg h1]
      obtain ⟨a, b⟩ := joinRow_ok n x hx ys acc m hys h
      exact ⟨by rw [List.length_cons]; omega, b⟩
theorem joinAll_ok (n : Nat) (b : List S42) (hb : ∀ y ∈ b, y.f0.length ≤ 4) : ∀ (xs acc : List S42) (m : Nat), (∀ x ∈ xs, x.f0.length ≤ 4) → JOk m acc → JOk (m + xs.length * b.length) (joinAll n b acc xs).1
  | [], acc, m, _, h => by simpa [joinAll] using h
  | x :: xs, acc, m, hx, h => by
    have hx0 := hx x (List.mem_cons_self ..)
    have hxs : ∀ z ∈ xs, z.f0.length ≤ 4 := fun z hz => hx z (List.mem_cons_of_mem _ hz)
    unfold joinAll
    by_cases h1 : (joinRow n x acc b).2 = true
    · rw [if_pos h1]
      have := joinAll_ok n b hb xs _ (m + b.length) hxs (joinRow_ok n x hx0 b acc m hb h)
      rw [List.length_cons, Nat.succ_mul, show m + (xs.length * b.length + b.length) = m + b.length + xs.length * b.length by omega]
      exact this
    · rw [if_neg h1]; exact ⟨by simp, by simp⟩
def maxL : List S42 → Int → Int
  | [], m => m
  | x :: xs, m => maxL xs (if m < (x.f0.length : Int) then (x.f0.length : Int) else m)
def wide1 (key : Int) (x : S42) (b : List S42) : Bool := b.any fun y => decide ((x.f0.length : Int) + (y.f0.length : Int) - key > 4)
def wideB (key : Int) (a b : List S42) : Bool := a.any fun x => wide1 key x b
theorem maxL_le : ∀ (l : List S42) (m c : Int), maxL l m ≤ c ↔ m ≤ c ∧ ∀ x ∈ l, (x.f0.length : Int) ≤ c
  | [], m, c => by simp [maxL]
  | x :: xs, m, c => by
    unfold maxL
    rw [maxL_le]
    constructor
    · rintro ⟨h1, h2⟩
      by_cases h : m < (x.f0.length : Int)
      · rw [if_pos h] at h1
        exact ⟨by omega, fun y hy => by rcases List.mem_cons.mp hy with rfl | hy; exact h1; exact h2 y hy⟩
      · rw [if_neg h] at h1
        exact ⟨h1, fun y hy => by rcases List.mem_cons.mp hy with rfl | hy; omega; exact h2 y hy⟩
    · rintro ⟨h1, h2⟩
      have := h2 x (List.mem_cons_self ..)
      exact ⟨by split <;> omega, fun y hy => h2 y (List.mem_cons_of_mem _ hy)⟩
theorem wideB_max {key : Int} {a b : List S42} (ha : a ≠ []) (hb : b ≠ []) : wideB key a b = decide (4 + key < maxL a 0 + maxL b 0) := by
  rw [Bool.eq_iff_iff, decide_eq_true_eq]
  unfold wideB wide1
  simp only [List.any_eq_true, decide_eq_true_eq]
  constructor
  · rintro ⟨x, hx, y, hy, h⟩
    have h1 := ((maxL_le a 0 (maxL a 0)).mp (by omega)).2 x hx
    have h2 := ((maxL_le b 0 (maxL b 0)).mp (by omega)).2 y hy
    omega
  · intro h
    have ex : ∀ (l : List S42), l ≠ [] → ∃ x ∈ l, maxL l 0 ≤ (x.f0.length : Int) := by
      intro l hl
      refine Classical.byContradiction fun hn => ?_
      have hn' : ∀ x ∈ l, (x.f0.length : Int) ≤ maxL l 0 - 1 := fun x hx => by
        by_cases q : maxL l 0 ≤ (x.f0.length : Int)
        · exact absurd ⟨x, hx, q⟩ hn
        · omega
      obtain ⟨x0, hx0⟩ : ∃ x0, x0 ∈ l := by
        cases l with
        | nil => exact absurd rfl hl
        | cons x xs => exact ⟨x, List.mem_cons_self ..⟩
      have h0 := hn' x0 hx0
      have := (maxL_le l 0 (maxL l 0 - 1)).mpr ⟨by omega, hn'⟩
      omega
    obtain ⟨x, hx, h1⟩ := ex a ha
    obtain ⟨y, hy, h2⟩ := ex b hb
    exact ⟨x, hx, y, hy, by omega⟩
def joinR (p : List S42 × Bool) : Int × List S42 := if p.2 = true then (if 800 < p.1.length then (2, []) else ((sumF p.1).2, (sumF p.1).1)) else (8, [])
def joinF (key : Int) (a b : List S42) : Int × List S42 :=
  if (1 ≤ key ∧ key ≤ 4) then (if (if setF a = 0 then setF b else setF a) = 0 then (if (longB key a && longB key b) = true then (if wideB key a b = true then (2, []) else joinR (joinAll key.toNat b [] a)) else (1, [])) else ((if setF a = 0 then setF b else setF a), [])) else (3, [])
theorem JOk.fine {l : List S42} (h : JOk 40000 l) : Fine l := ⟨by have := h.1; omega, fun x hx => by have := (h.2 x hx).1; omega⟩
theorem joinR_fine {p : List S42 × Bool} (h : JOk 40000 p.1) : Fine (joinR p).2 := by
  have nil : Fine ([] : List S42) := ⟨by simp, by simp⟩
  unfold joinR
  repeat' split
  · exact nil
  · exact sumF_fine h.fine
  · exact nil
theorem setF_len {l : List S42} (h : setF l = 0) : ∀ x ∈ l, x.f0.length ≤ 4 := fun x hx => (rowF_zero ((setF_ok h).2 x hx).1).1
theorem two_zero {a b : List S42} (h : (if setF a = 0 then setF b else setF a) = 0) : setF a = 0 ∧ setF b = 0 := by
  by_cases h1 : setF a = 0
  · rw [if_pos h1] at h; exact ⟨h1, h⟩
  · rw [if_neg h1] at h; exact absurd h h1
theorem joinAll_jok (n : Nat) {a b : List S42} (ha : setF a = 0) (hb : setF b = 0) : JOk 40000 (joinAll n b [] a).1 := by
  obtain ⟨n1, _⟩ := setF_ok ha
  obtain ⟨n2, _⟩ := setF_ok hb
  obtain ⟨h1, h2⟩ := joinAll_ok n b (setF_len hb) a [] 0 (setF_len ha) ⟨by simp, by simp⟩
  have := Nat.mul_le_mul n1 n2
  exact ⟨by omega, h2⟩
theorem joinF_fine (key : Int) (a b : List S42) : Fine (joinF key a b).2 := by
  have nil : Fine ([] : List S42) := ⟨by simp, by simp⟩
  unfold joinF
  by_cases h1 : 1 ≤ key ∧ key ≤ 4
  · rw [if_pos h1]
    by_cases h2 : (if setF a = 0 then setF b else setF a) = 0
    · obtain ⟨ha, hb⟩ := two_zero h2
      rw [if_pos h2]
      repeat' split
      · exact nil
      · exact joinR_fine (joinAll_jok _ ha hb)
      · exact nil
    · rw [if_neg h2]; exact nil
  · rw [if_neg h1]; exact nil
theorem specJoin_l1 (key : Int) (hk : 1 ≤ key ∧ key ≤ 4) (a b : List S42) (ha : setF a = 0) (hb : setF b = 0) (la : longB key a = true) (lb : longB key b = true) (i : Nat) (hi : i < a.length)
    (next : ∀ acc : List S42, JOk ((i + 1) * b.length) acc → Ev (fun k => spec_l4Join.l0 k a b key acc ((i + 1 : Nat) : Int)) (if (joinAll key.toNat b acc (a.drop (i + 1))).2 = true then (if 800 < (joinAll key.toNat b acc (a.drop (i + 1))).1.length then ([], 2) else sumF (joinAll key.toNat b acc (a.drop (i + 1))).1) else ([], 8))) :
    ∀ (d j : Nat) (acc : List S42), j + d = b.length → JOk (i * b.length + j) acc →
      Ev (fun k => spec_l4Join.l1 k a b key acc (i : Int) (j : Int)) (if (joinRow key.toNat (rd_T42 a (i : Int)) acc (b.drop j)).2 = true then (if (joinAll key.toNat b (joinRow key.toNat (rd_T42 a (i : Int)) acc (b.drop j)).1 (a.drop (i + 1))).2 = true then (if 800 < (joinAll key.toNat b (joinRow key.toNat (rd_T42 a (i : Int)) acc (b.drop j)).1 (a.drop (i + 1))).1.length then ([], 2) else sumF (joinAll key.toNat b (joinRow key.toNat (rd_T42 a (i : Int)) acc (b.drop j)).1 (a.drop (i + 1))).1) else ([], 8)) else ([], 8)) := by
  obtain ⟨n1, g1⟩ := setF_ok ha
  obtain ⟨n2, g2⟩ := setF_ok hb
  have hma := rdE_mem (xs := a) (i := i) hi
  have hra := setF_len ha _ hma
  have hwa := (g1 _ hma).2.1
  have hla : key ≤ ((rd_T42 a (i : Int)).f0.length : Int) := by
    have := List.all_eq_true.mp la _ hma
    simpa using this
  intro d
  induction d with
  | zero =>
    intro j acc hd hacc
    refine Kit.Ev.up ?_
    simp only [spec_l4Join.l1]
    refine Kit.Ev.neg (by omega) ?_
    rw [w64n (n := a.length) (by omega) (by omega), List.drop_eq_nil_of_le (show b.length ≤ j by omega)]
    simp only [joinRow, if_true]
    refine next acc ⟨?_, hacc.2⟩
    have := hacc.1
    rw [Nat.succ_mul]; omega
  | succ d ih =>
    intro j acc hd hacc
    have hj : j < b.length := by omega
    have hmb := rdE_mem (xs := b) (i := j) hj
    have hrb := setF_len hb _ hmb
    have hwb := (g2 _ hmb).2.1
    have hlb : key ≤ ((rd_T42 b (j : Int)).f0.length : Int) := by
      have := List.all_eq_true.mp lb _ hmb
      simpa using this
    have hil : i * b.length ≤ 200 * 200 := Nat.mul_le_mul (by omega) n2
    have hal := hacc.1
    rw [rdE_drop (xs := b) (i := j) hj]
    unfold joinRow
    refine Kit.Ev.up ?_
    simp only [spec_l4Join.l1]
    refine Kit.Ev.pos (by omega) (Kit.Ev.pos (by omega) (Kit.Ev.pos (by omega) (Kit.Ev.pos (by omega) (Kit.Ev.pos (by omega) (Kit.Ev.pos (by omega) (Kit.Ev.pos (by omega) (Kit.Ev.then (specCmp_ev _ _ (by rw [List.length_take]; omega)) ?_)))))))
    rw [w64n (n := b.length) (by omega) (by omega)]
    by_cases h1 : (rd_T42 a (i : Int)).f0.take key.toNat = (rd_T42 b (j : Int)).f0.take key.toNat
    · simp only [if_pos h1]
      refine Kit.Ev.pos ((cmpR_zero _ _).mpr h1) (Kit.Ev.then (specMulP_ev _ _ hwa hwb) ?_)
      by_cases h2 : (mulP (rd_T42 a (i : Int)).f1 (rd_T42 b (j : Int)).f1).2 = true
      · simp only [if_pos h2]
        refine Kit.Ev.call (l2Row_eq _ (by omega)) (Kit.Ev.pos (by rw [List.length_drop]; omega) (Kit.Ev.pos (by omega) ?_))
        refine ih (j + 1) _ (by omega) ⟨by rw [List.length_append]; simp only [List.length_cons, List.length_nil]; omega, fun z hz => ?_⟩
        rcases List.mem_append.mp hz with hz | hz
        · exact hacc.2 z hz
        · rw [List.mem_singleton.mp hz]
          refine ⟨?_, mulP_small ..⟩
          rw [List.length_append, List.length_drop]; omega
      · simp only [if_neg h2]
        exact (Kit.Ev.const rfl).eq (by simp)
    · simp only [if_neg h1]
      refine Kit.Ev.neg (fun h => h1 ((cmpR_zero _ _).mp h)) ?_
      exact ih (j + 1) acc (by omega) ⟨by omega, hacc.2⟩
theorem specJoin_l0 (key : Int) (hk : 1 ≤ key ∧ key ≤ 4) (a b : List S42) (ha : setF a = 0) (hb : setF b = 0) (la : longB key a = true) (lb : longB key b = true) : ∀ (d i : Nat) (acc : List S42), i + d = a.length → JOk (i * b.length) acc →
    Ev (fun k => spec_l4Join.l0 k a b key acc (i : Int)) (if (joinAll key.toNat b acc (a.drop i)).2 = true then (if 800 < (joinAll key.toNat b acc (a.drop i)).1.length then ([], 2) else sumF (joinAll key.toNat b acc (a.drop i)).1) else ([], 8)) := by
  obtain ⟨n1, g1⟩ := setF_ok ha
  obtain ⟨n2, g2⟩ := setF_ok hb
  intro d
  induction d with
  | zero =>
    intro i acc hd hacc
    have hil : i * b.length ≤ 200 * 200 := Nat.mul_le_mul (by omega) n2
    have hal := hacc.1
    refine Kit.Ev.up ?_
    simp only [spec_l4Join.l0]
    refine Kit.Ev.neg (by omega) ?_
    rw [List.drop_eq_nil_of_le (by omega)]
    have ej : joinAll key.toNat b acc [] = (acc, true) := rfl
    rw [ej, if_pos rfl]
    refine Kit.Ev.ite (fun h => ?_) (fun h => ?_)
    · rw [if_pos (show 800 < acc.length by omega)]; exact Kit.Ev.const rfl
    · rw [if_neg (show ¬ 800 < acc.length by omega)]
      exact Kit.Ev.then (l2Set_ev acc (JOk.fine ⟨by omega, hacc.2⟩)) (Kit.Ev.const rfl)
  | succ d ih =>
    intro i acc hd hacc
    have hi : i < a.length := by omega
    rw [rdE_drop (xs := a) (i := i) hi]
    unfold joinAll
    refine Kit.Ev.up ?_
    simp only [spec_l4Join.l0]
    refine Kit.Ev.pos (by omega) ?_
    refine (specJoin_l1 key hk a b ha hb la lb i hi (fun acc' h' => ih (i + 1) acc' (by omega) h') b.length 0 acc (by omega) hacc).eq ?_
    rw [List.drop_zero]
    by_cases h1 : (joinRow key.toNat (rd_T42 a (i : Int)) acc b).2 = true
    · simp only [if_pos h1]
    · simp only [if_neg h1, Bool.false_eq_true, if_false]
theorem specJoinL_ev (key : Int) (hk : 1 ≤ key ∧ key ≤ 4) (a b : List S42) (ha : setF a = 0) (hb : setF b = 0) (la : longB key a = true) (lb : longB key b = true) : Ev (fun k => spec_l4Join.f k a b key) (if (joinAll key.toNat b [] a).2 = true then (if 800 < (joinAll key.toNat b [] a).1.length then ([], 2) else sumF (joinAll key.toNat b [] a).1) else ([], 8)) := by
  unfold spec_l4Join.f
  exact specJoin_l0 key hk a b ha hb la lb a.length 0 [] (by omega) ⟨by simp, by simp⟩
theorem specWide_l1 (key : Int) (hk : 1 ≤ key ∧ key ≤ 4) (a b : List S42) (ha : setF a = 0) (hb : setF b = 0) (i : Nat) (hi : i < a.length) {r : Int × List S42} (next : Ev (fun k => spec_JoinSets.l0 k a b key ((i + 1 : Nat) : Int)) r) :
    ∀ (d j : Nat), j + d = b.length → Ev (fun k => spec_JoinSets.l1 k a b key (i : Int) (j : Int)) (if wide1 key (rd_T42 a (i : Int)) (b.drop j) = true then (2, []) else r) := by
  obtain ⟨n1, g1⟩ := setF_ok ha
  obtain ⟨n2, g2⟩ := setF_ok hb
  have hra := setF_len ha _ (rdE_mem (xs := a) (i := i) hi)
  intro d
  induction d with
  | zero =>
    intro j hd
    refine Kit.Ev.up ?_
    simp only [spec_JoinSets.l1]
    refine Kit.Ev.neg (by omega) ?_
    rw [w64n (n := a.length) (by omega) (by omega), List.drop_eq_nil_of_le (show b.length ≤ j by omega)]
    exact next
  | succ d ih =>
    intro j hd
    have hj : j < b.length := by omega
    have hrb := setF_len hb _ (rdE_mem (xs := b) (i := j) hj)
    rw [rdE_drop (xs := b) (i := j) hj]
    refine Kit.Ev.up ?_
    simp only [spec_JoinSets.l1]
    rw [w64n (n := b.length) (by omega) (by omega), Kit.w64 (x := ((rd_T42 a (i : Int)).f0.length : Int) + ((rd_T42 b (j : Int)).f0.length : Int)) (by omega) (by omega), Kit.w64 (by omega) (by omega)]
    refine Kit.Ev.pos (by omega) (Kit.Ev.pos (by omega) (Kit.Ev.pos (by omega) (Kit.Ev.pos (by omega) ?_)))
    have ew : wide1 key (rd_T42 a (i : Int)) (rd_T42 b (j : Int) :: b.drop (j + 1)) = (decide (((rd_T42 a (i : Int)).f0.length : Int) + ((rd_T42 b (j : Int)).f0.length : Int) - key > 4) || wide1 key (rd_T42 a (i : Int)) (b.drop (j + 1))) := rfl
    rw [ew]
    by_cases h : ((rd_T42 a (i : Int)).f0.length : Int) + ((rd_T42 b (j : Int)).f0.length : Int) - key > 4
    · rw [decide_eq_true h, Bool.true_or, if_pos rfl]
      exact Kit.Ev.pos h (Kit.Ev.const rfl)
    · rw [decide_eq_false h, Bool.false_or]
      exact Kit.Ev.neg h (ih (j + 1) (by omega))
theorem specWide_l0 (key : Int) (hk : 1 ≤ key ∧ key ≤ 4) (a b : List S42) (ha : setF a = 0) (hb : setF b = 0) (la : longB key a = true) (lb : longB key b = true) : ∀ (d i : Nat), i + d = a.length →
    Ev (fun k => spec_JoinSets.l0 k a b key (i : Int)) (if wideB key (a.drop i) b = true then (2, []) else joinR (joinAll key.toNat b [] a)) := by
  obtain ⟨n1, g1⟩ := setF_ok ha
  intro d
  induction d with
  | zero =>
    intro i hd
    refine Kit.Ev.up ?_
    simp only [spec_JoinSets.l0]
    refine Kit.Ev.neg (by omega) ?_
    rw [List.drop_eq_nil_of_le (by omega)]
    refine Kit.Ev.then (specJoinL_ev key hk a b ha hb la lb) (Kit.Ev.const ?_)
    unfold joinR
    have e : wideB key [] b = false := rfl
    rw [e]
    generalize joinAll key.toNat b [] a = p
    simp only [Bool.false_eq_true, if_false]
    by_cases h1 : p.2 = true
    · simp only [if_pos h1]
      by_cases h2 : 800 < p.1.length
      · simp only [if_pos h2]
      · simp only [if_neg h2]
    · simp only [if_neg h1]
  | succ d ih =>
    intro i hd
    have hi : i < a.length := by omega
    rw [rdE_drop (xs := a) (i := i) hi]
    refine Kit.Ev.up ?_
    simp only [spec_JoinSets.l0]
    refine Kit.Ev.pos (by omega) ?_
    refine (specWide_l1 key hk a b ha hb i hi (ih (i + 1) (by omega)) b.length 0 (by omega)).eq ?_
    rw [List.drop_zero]
    have ew : wideB key (rd_T42 a (i : Int) :: a.drop (i + 1)) b = (wide1 key (rd_T42 a (i : Int)) b || wideB key (a.drop (i + 1)) b) := rfl
    rw [ew]
    by_cases h : wide1 key (rd_T42 a (i : Int)) b = true
    · rw [h, Bool.true_or, if_pos rfl, if_pos rfl]
    · simp only [Bool.not_eq_true] at h
      rw [h, Bool.false_or, if_neg (by decide)]
theorem specJoinS_ev (key : Int) (a b : List S42) (hxa : Fine a) (hxb : Fine b) : Ev (fun k => spec_JoinSets.f k a b key) (joinF key a b) := by
  unfold spec_JoinSets.f joinF
  refine Kit.Ev.call (specIn_eq key 1 4) ?_
  by_cases hk : 1 ≤ key ∧ key ≤ 4
  · simp only [if_pos hk]
    refine Kit.Ev.pos (by simp [hk]) ?_
    refine Kit.Ev.then (specSet_ev a hxa) ?_
    by_cases ha : setF a = 0
    · simp only [if_pos ha]
      refine Kit.Ev.then (specSet_ev b hxb) ?_
      by_cases hb : setF b = 0
      · simp only [if_pos hb]
        have tail : ∀ t : Bool, t = !(longB key a && longB key b) → Ev (fun k => spec_JoinSets.j0 k a b key t) (if (longB key a && longB key b) = true then (if wideB key a b = true then (2, []) else joinR (joinAll key.toNat b [] a)) else (1, [])) := by
          intro t ht
          refine Kit.Ev.up ?_
          simp only [spec_JoinSets.j0]
          by_cases h : (longB key a && longB key b) = true
          · rw [h] at ht
            rw [if_pos h]
            obtain ⟨la, lb⟩ : longB key a = true ∧ longB key b = true := by simpa using h
            refine Kit.Ev.neg (by rw [ht]; decide) ?_
            exact (specWide_l0 key hk a b ha hb la lb a.length 0 (by omega)).eq (by rw [List.drop_zero])
          · simp only [Bool.not_eq_true] at h
            rw [h] at ht
            rw [h]
            exact Kit.Ev.pos (by rw [ht]; rfl) (Kit.Ev.const rfl)
        refine Kit.Ev.then (specShort_ev key a hxa.1) ?_
        by_cases la : longB key a = true
        · refine Kit.Ev.neg (by rw [la]; decide) (Kit.Ev.then (specShort_ev key b hxb.1) ?_)
          exact tail _ (by rw [la, Bool.true_and])
        · simp only [Bool.not_eq_true] at la
          refine Kit.Ev.pos (by rw [la]; rfl) ?_
          exact tail _ (by rw [la]; rfl)
      · simp only [if_neg hb]; exact Kit.Ev.const rfl
    · simp only [if_neg ha]; exact Kit.Ev.const rfl
  · simp only [if_neg hk]
    exact Kit.Ev.neg (by simp [hk]) (Kit.Ev.const rfl)
theorem longest_l0 (xs : List S42) (hx : Fine xs) : ∀ (d i : Nat) (m : Int), i + d = xs.length → Ev (fun k => impl_longest.l0 k m xs (xs.length : Int) (i : Int)) (maxL (xs.drop i) m) := by
  have hl := hx.1
  intro d
  induction d with
  | zero =>
    intro i m hd
    refine Kit.Ev.up ?_
    simp only [impl_longest.l0]
    refine Kit.Ev.neg (by omega) (Kit.Ev.const ?_)
    rw [List.drop_eq_nil_of_le (by omega)]; rfl
  | succ d ih =>
    intro i m hd
    rw [rdE_drop (xs := xs) (i := i) (by omega)]
    unfold maxL
    refine Kit.Ev.up ?_
    simp only [impl_longest.l0, impl_size_int64.f, Option.bind_some]
    rw [w64n (n := xs.length) (by omega) (by omega)]
    refine Kit.Ev.pos (by omega) (Kit.Ev.pos (by omega) (Kit.Ev.pos (by omega) ?_))
    exact ih (i + 1) _ (by omega)
theorem longest_ev (xs : List S42) (hx : Fine xs) : Ev (fun k => impl_longest.f k xs) (maxL xs 0) := by
  unfold impl_longest.f
  exact (longest_l0 xs hx xs.length 0 0 (by omega)).eq (by rw [List.drop_zero])
theorem implJoin_l1 (key : Int) (hk : 1 ≤ key ∧ key ≤ 4) (a b : List S42) (ha : setF a = 0) (hb : setF b = 0) (la : longB key a = true) (lb : longB key b = true) (i : Nat) (hi : i < a.length)
    (next : ∀ acc : List S42, JOk ((i + 1) * b.length) acc → Ev (fun k => impl_JoinSets.l0 k b key acc a (a.length : Int) ((i + 1 : Nat) : Int)) (joinR (joinAll key.toNat b acc (a.drop (i + 1))))) :
    ∀ (d j : Nat) (acc : List S42), j + d = b.length → JOk (i * b.length + j) acc →
      Ev (fun k => impl_JoinSets.l1 k b key acc a (a.length : Int) (i : Int) b (b.length : Int) (j : Int) (rd_T42 a (i : Int)).f0 (rd_T42 a (i : Int)).f1) (if (joinRow key.toNat (rd_T42 a (i : Int)) acc (b.drop j)).2 = true then joinR (joinAll key.toNat b (joinRow key.toNat (rd_T42 a (i : Int)) acc (b.drop j)).1 (a.drop (i + 1))) else (8, [])) := by
  obtain ⟨n1, g1⟩ := setF_ok ha
  obtain ⟨n2, g2⟩ := setF_ok hb
  have hma := rdE_mem (xs := a) (i := i) hi
  have hra := setF_len ha _ hma
  have hwa := (g1 _ hma).2.1
  have hla : key ≤ ((rd_T42 a (i : Int)).f0.length : Int) := by
    have := List.all_eq_true.mp la _ hma
    simpa using this
  intro d
  induction d with
  | zero =>
    intro j acc hd hacc
    refine Kit.Ev.up ?_
    simp only [impl_JoinSets.l1]
    refine Kit.Ev.neg (by omega) ?_
    rw [w64n (n := a.length) (by omega) (by omega), List.drop_eq_nil_of_le (show b.length ≤ j by omega)]
    simp only [joinRow, if_true]
    refine next acc ⟨?_, hacc.2⟩
    have := hacc.1
    rw [Nat.succ_mul]; omega
  | succ d ih =>
    intro j acc hd hacc
    have hj : j < b.length := by omega
    have hmb := rdE_mem (xs := b) (i := j) hj
    have hrb := setF_len hb _ hmb
    have hwb := (g2 _ hmb).2.1
    have hlb : key ≤ ((rd_T42 b (j : Int)).f0.length : Int) := by
      have := List.all_eq_true.mp lb _ hmb
      simpa using this
    have hil : i * b.length ≤ 200 * 200 := Nat.mul_le_mul (by omega) n2
    have hal := hacc.1
    rw [rdE_drop (xs := b) (i := j) hj]
    unfold joinRow
    refine Kit.Ev.up ?_
    simp only [impl_JoinSets.l1]
    refine Kit.Ev.pos (by omega) (Kit.Ev.pos (by omega) (Kit.Ev.pos (by omega) (Kit.Ev.pos (by omega) (Kit.Ev.pos (by omega) (Kit.Ev.pos (by omega) (Kit.Ev.then (slicesEq_ev _ _ (by rw [List.length_take]; omega)) ?_))))))
    rw [w64n (n := b.length) (by omega) (by omega)]
    by_cases h1 : (rd_T42 a (i : Int)).f0.take key.toNat = (rd_T42 b (j : Int)).f0.take key.toNat
    · simp only [if_pos h1]
      refine Kit.Ev.pos (decide_eq_true h1) (Kit.Ev.then (implMulP_ev _ _ hwa hwb) ?_)
      by_cases h2 : (mulP (rd_T42 a (i : Int)).f1 (rd_T42 b (j : Int)).f1).2 = true
      · simp only [if_pos h2]
        have hc : cat2.f (rd_T42 a (i : Int)).f0 ((rd_T42 b (j : Int)).f0.drop key.toNat) = some ((rd_T42 a (i : Int)).f0 ++ (rd_T42 b (j : Int)).f0.drop key.toNat) := by
          unfold cat2.f
          rw [if_pos (by rw [List.length_drop]; omega)]
        refine Kit.Ev.call hc (Kit.Ev.pos (by omega) ?_)
        refine ih (j + 1) _ (by omega) ⟨by rw [List.length_append]; simp only [List.length_cons, List.length_nil]; omega, fun z hz => ?_⟩
        rcases List.mem_append.mp hz with hz | hz
        · exact hacc.2 z hz
        · rw [List.mem_singleton.mp hz]
          refine ⟨?_, mulP_small ..⟩
          rw [List.length_append, List.length_drop]; omega
      · simp only [if_neg h2]
        exact (Kit.Ev.const rfl).eq (by simp)
    · simp only [if_neg h1]
      refine Kit.Ev.neg (by simpa using h1) ?_
      exact ih (j + 1) acc (by omega) ⟨by omega, hacc.2⟩
theorem implJoin_l0 (key : Int) (hk : 1 ≤ key ∧ key ≤ 4) (a b : List S42) (ha : setF a = 0) (hb : setF b = 0) (la : longB key a = true) (lb : longB key b = true) : ∀ (d i : Nat) (acc : List S42), i + d = a.length → JOk (i * b.length) acc →
    Ev (fun k => impl_JoinSets.l0 k b key acc a (a.length : Int) (i : Int)) (joinR (joinAll key.toNat b acc (a.drop i))) := by
  obtain ⟨n1, g1⟩ := setF_ok ha
  obtain ⟨n2, g2⟩ := setF_ok hb
  intro d
  induction d with
  | zero =>
    intro i acc hd hacc
    have hil : i * b.length ≤ 200 * 200 := Nat.mul_le_mul (by omega) n2
    have hal := hacc.1
    have hf : JOk 40000 acc := ⟨by omega, hacc.2⟩
    refine Kit.Ev.up ?_
    simp only [impl_JoinSets.l0]
    refine Kit.Ev.neg (by omega) ?_
    rw [List.drop_eq_nil_of_le (by omega)]
    have ej : joinAll key.toNat b acc [] = (acc, true) := rfl
    rw [ej]
    unfold joinR
    rw [if_pos rfl]
    refine Kit.Ev.ite (fun h => ?_) (fun h => ?_)
    · rw [if_pos (show 800 < acc.length by omega)]; exact Kit.Ev.const rfl
    · rw [if_neg (show ¬ 800 < acc.length by omega)]
      exact Kit.Ev.call (summed_eq acc hf.fine (fun x hx => by have := (hf.2 x hx).2; omega)) (Kit.Ev.const rfl)
  | succ d ih =>
    intro i acc hd hacc
    have hi : i < a.length := by omega
    rw [rdE_drop (xs := a) (i := i) hi]
    unfold joinAll
    refine Kit.Ev.up ?_
    simp only [impl_JoinSets.l0]
    refine Kit.Ev.pos (by omega) (Kit.Ev.pos (by omega) (Kit.Ev.pos (by omega) ?_))
    refine (implJoin_l1 key hk a b ha hb la lb i hi (fun acc' h' => ih (i + 1) acc' (by omega) h') b.length 0 acc (by omega) hacc).eq ?_
    rw [List.drop_zero]
    by_cases h1 : (joinRow key.toNat (rd_T42 a (i : Int)) acc b).2 = true
    · simp only [if_pos h1]
    · simp only [if_neg h1, joinR, Bool.false_eq_true, if_false]
theorem implJoinS_ev (key : Int) (a b : List S42) (hxa : Fine a) (hxb : Fine b) : Ev (fun k => impl_JoinSets.f k a b key) (joinF key a b) := by
  unfold impl_JoinSets.f joinF
  refine Kit.Ev.call (implIn_eq key 1 4) ?_
  by_cases hk : 1 ≤ key ∧ key ≤ 4
  · simp only [if_pos hk]
    refine Kit.Ev.pos (by simp [hk]) (Kit.Ev.then (setsFault_ev a b hxa hxb) ?_)
    by_cases h0 : (if setF a = 0 then setF b else setF a) = 0
    · obtain ⟨ha, hb⟩ := two_zero h0
      simp only [if_pos h0]
      obtain ⟨n1, g1⟩ := setF_ok ha
      obtain ⟨n2, g2⟩ := setF_ok hb
      have tail : ∀ t : Bool, t = !(longB key a && longB key b) → Ev (fun k => impl_JoinSets.j0 k a b key t) (if (longB key a && longB key b) = true then (if wideB key a b = true then (2, []) else joinR (joinAll key.toNat b [] a)) else (1, [])) := by
        intro t ht
        refine Kit.Ev.up ?_
        simp only [impl_JoinSets.j0]
        by_cases h : (longB key a && longB key b) = true
        · rw [h] at ht
          rw [if_pos h]
          obtain ⟨la, lb⟩ : longB key a = true ∧ longB key b = true := by simpa using h
          have J : Ev (fun k => impl_JoinSets.j1 k a b key) (joinR (joinAll key.toNat b [] a)) := by
            refine Kit.Ev.up ?_
            simp only [impl_JoinSets.j1]
            exact (implJoin_l0 key hk a b ha hb la lb a.length 0 [] (by omega) ⟨by simp, by simp⟩).eq (by rw [List.drop_zero])
          refine Kit.Ev.neg (by rw [ht]; decide) ?_
          by_cases ea : a = []
          · subst ea
            have e : wideB key [] b = false := rfl
            rw [e, if_neg (by decide)]
            exact Kit.Ev.neg (by simp) J
          · have la0 : (a.length : Int) > 0 := by have := List.length_pos_iff.mpr ea; omega
            refine Kit.Ev.pos la0 ?_
            by_cases eb : b = []
            · subst eb
              have e : wideB key a [] = false := by unfold wideB wide1; simp
              rw [e, if_neg (by decide)]
              exact Kit.Ev.neg (by simp) J
            · have lb0 : (b.length : Int) > 0 := by have := List.length_pos_iff.mpr eb; omega
              have b1 := (maxL_le a 0 4).mpr ⟨by omega, fun x hx => by have := setF_len ha x hx; omega⟩
              have b2 := (maxL_le b 0 4).mpr ⟨by omega, fun x hx => by have := setF_len hb x hx; omega⟩
              have c1 := ((maxL_le a 0 (maxL a 0)).mp (by omega)).1
              have c2 := ((maxL_le b 0 (maxL b 0)).mp (by omega)).1
              refine Kit.Ev.pos lb0 (Kit.Ev.then (longest_ev a hxa) (Kit.Ev.then (longest_ev b hxb) ?_))
              rw [Kit.w64 (x := maxL a 0 + maxL b 0) (by omega) (by omega), Kit.w64 (x := 4 + key) (by omega) (by omega), wideB_max ea eb]
              by_cases hw : 4 + key < maxL a 0 + maxL b 0
              · rw [decide_eq_true hw, if_pos rfl]; exact Kit.Ev.pos hw (Kit.Ev.const rfl)
              · rw [decide_eq_false hw, if_neg (by decide)]; exact Kit.Ev.neg hw J
        · simp only [Bool.not_eq_true] at h
          rw [h] at ht
          rw [h]
          exact Kit.Ev.pos (by rw [ht]; rfl) (Kit.Ev.const rfl)
      refine Kit.Ev.then (areLong_ev key a hxa.1) ?_
      by_cases la : longB key a = true
      · refine Kit.Ev.pos la (Kit.Ev.then (areLong_ev key b hxb.1) ?_)
        exact tail _ (by rw [la, Bool.true_and])
      · simp only [Bool.not_eq_true] at la
        refine Kit.Ev.neg (by rw [la]; decide) ?_
        exact tail _ (by rw [la]; rfl)
    · simp only [if_neg h0]; exact Kit.Ev.const rfl
  · simp only [if_neg hk]
    exact Kit.Ev.neg (by simp [hk]) (Kit.Ev.const rfl)
theorem FnExactJoinSets : laws_FnExactJoinSets.Pure := by
  intro l l' key hl _ hl' _ _
  unfold laws_FnExactJoinSets.ok
  obtain ⟨hz, hin⟩ := input_of hl (t := 1048576) (by omega) (by omega)
  by_cases hc : szE 1048576 l < 0
  · obtain ⟨k, e⟩ := (Late.of hz).ex
    exact ⟨k, .inl ⟨_, e, hc⟩⟩
  obtain ⟨h1, h0, hx, ht⟩ := hin hc
  obtain ⟨hz', hin'⟩ := input_of hl' (t := szE 1048576 l) h0 h1
  by_cases hc' : szE (szE 1048576 l) l' < 0
  · obtain ⟨k, e, e'⟩ := ((Late.of hz).and (Late.of hz')).ex
    exact ⟨k, .inr (.inl ⟨_, _, e, e', by omega, hc'⟩)⟩
  obtain ⟨_, h0', hx', ht'⟩ := hin' hc'
  have hr := joinF_fine key (l.map conv) (l'.map conv)
  have c1 := hx.cells
  have c1' := hx'.cells
  have c2 := hr.cells
  have n1 := hx.1
  have n1' := hx'.1
  have n2 := hr.1
  obtain ⟨k, e0, e1, e2, e3, e4, e5, e6, e7, e8, e9, e10, e11, e12⟩ := ((Late.of hz).and ((Late.of hz').and ((Late.of ht).and ((Late.of ht').and ((Late.of (specJoinS_ev key _ _ hx hx')).and ((Late.of (implJoinS_ev key _ _ hx hx')).and ((Late.of (eqSetR_refl (joinF key (l.map conv) (l'.map conv)).1 _ hr)).and ((Late.of (eqEntryS_refl _ hx.n hx.r)).and ((Late.of (eqEntryS_refl _ hx'.n hx'.r)).and ((Late.of (markE_ev (l.map conv) 1 (by omega) (by omega) (by omega))).and ((Late.of (markE_ev (l'.map conv) (1 + cellsE (l.map conv)) (by omega) (by omega) (by omega))).and ((Late.of (markSet_ev (joinF key (l.map conv) (l'.map conv)).1 (joinF key (l.map conv) (l'.map conv)).2 1 (by omega) (by omega) (by omega))).and (Late.of (heldSet_ev (joinF key (l.map conv) (l'.map conv)).1 (joinF key (l.map conv) (l'.map conv)).2 1 (by omega) (by omega) (by omega))))))))))))))).ex
  exact ⟨k, .inr (.inr ⟨_, _, _, _, _, _, _, _, _, _, _, _, e0, e1, e2, e3, e4, e5, e6, e7, e8, e9, e10, e11, e12, by omega, by omega, by omega, by omega, by omega⟩)⟩

end Go.Proofs.Ythgmicingbjemaa.Pure
