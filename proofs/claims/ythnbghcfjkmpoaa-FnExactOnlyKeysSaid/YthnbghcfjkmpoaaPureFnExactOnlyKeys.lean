/- The law FnExactOnlyKeys answers true for every list of entries, every list of keys and every width. -/
import Derived.Test.YthnbghcfjkmpoaaKit
import Derived.Test.YthnbghcfjkmpoaaVFnExactOnlyKeys
namespace Go.Proofs.Ythnbghcfjkmpoaa.Pure
open Go.RowKit Go.Proofs.Ythnbghcfjkmpoaa.PFnExactOnlyKeys Go.Proofs.YthnbghcfjkmpoaaW.PrintWords Go.Proofs.YthnbghcfjkmpoaaW.PrintLast Go.Proofs.Ythnbghcfjkmpoaa
set_option linter.unusedSimpArgs false
set_option linter.unusedVariables false

theorem w64n {i n : Nat} (h : i < n) (hn : n ≤ 9223372036854775807) : wrap64 ((i : Int) + 1) = ((i + 1 : Nat) : Int) := by
  rw [Kit.w64 (by omega) (by omega)]; rfl
theorem rd_drop {xs : List Int} {i : Nat} (h : i < xs.length) : xs.drop i = rd xs (i : Int) :: xs.drop (i + 1) := by
  rw [Kit.rd_at h]; exact List.drop_eq_getElem_cons h
theorem toInt64S_l0 (xs : List Int) (hn : xs.length ≤ 9223372036854775807) : ∀ (d i : Nat) (ys : List Int), i + d = xs.length → ys.length = xs.length → (∀ j, j < i → ys[j]? = xs[j]?) → Ev (fun k => laws_toInt64S.l0 k xs ys (i : Int)) xs := by
  intro d
  induction d with
  | zero =>
    intro i ys hd hl he
    refine Kit.Ev.up ?_
    simp only [laws_toInt64S.l0]
    refine Kit.Ev.neg (by omega) (Kit.Ev.const ?_)
    congr 1
    apply List.ext_getElem?
    intro j
    by_cases hj : j < i
    · exact he j hj
    · rw [List.getElem?_eq_none (by omega), List.getElem?_eq_none (by omega)]
  | succ d ih =>
    intro i ys hd hl he
    refine Kit.Ev.up ?_
    simp only [laws_toInt64S.l0]
    refine Kit.Ev.pos (by omega) (Kit.Ev.pos (by omega) (Kit.Ev.pos (by omega) ?_))
    rw [w64n (n := xs.length) (by omega) hn, Int.toNat_natCast]
    refine ih (i + 1) _ (by omega) (by simpa using hl) (fun j hj => ?_)
    rw [List.getElem?_set]
    by_cases e : i = j
    · subst e
      rw [if_pos rfl, if_pos (by omega), Kit.rd_at (by omega), List.getElem?_eq_getElem (by omega)]
    · rw [if_neg e]
      exact he j (by omega)
theorem toInt64S_ev (xs : List Int) (hn : xs.length ≤ 1048576) : Ev (fun k => laws_toInt64S.f k xs) xs := by
  unfold laws_toInt64S.f
  refine Kit.Ev.pos (by omega) (Kit.Ev.pos (by omega) ?_)
  exact toInt64S_l0 xs (by omega) xs.length 0 _ (by omega) (by simp) (fun j hj => by omega)
theorem eqInt64S_l0 (xs ys : List Int) (hn : xs.length ≤ 9223372036854775807) (hl : xs.length = ys.length) : ∀ (d i : Nat), i + d = xs.length → Ev (fun k => laws_eqInt64S.l0 k xs ys (i : Int)) (decide (xs.drop i = ys.drop i)) := by
  intro d
  induction d with
  | zero =>
    intro i hd
    refine Kit.Ev.up ?_
    simp only [laws_eqInt64S.l0]
    refine Kit.Ev.neg (by omega) (Kit.Ev.const ?_)
    rw [List.drop_eq_nil_of_le (by omega), List.drop_eq_nil_of_le (by omega)]; simp
  | succ d ih =>
    intro i hd
    refine Kit.Ev.up ?_
    simp only [laws_eqInt64S.l0]
    refine Kit.Ev.pos (by omega) (Kit.Ev.pos (by omega) (Kit.Ev.pos (by omega) ?_))
    rw [rd_drop (xs := xs) (i := i) (by omega), rd_drop (xs := ys) (i := i) (by omega), w64n (n := xs.length) (by omega) hn]
    refine Kit.Ev.ite (fun h => ?_) (fun h => Kit.Ev.const ?_)
    · exact (ih (i + 1) (by omega)).eq (by rw [h]; simp)
    · simp [h]
theorem eqInt64S_ev (xs ys : List Int) (hn : xs.length ≤ 9223372036854775807) : Ev (fun k => laws_eqInt64S.f k xs ys) (decide (xs = ys)) := by
  unfold laws_eqInt64S.f
  refine Kit.Ev.ite (fun h => ?_) (fun h => Kit.Ev.const ?_)
  · exact (eqInt64S_l0 xs ys hn (by omega) xs.length 0 (by omega)).eq (by simp)
  · have : xs ≠ ys := fun e => h (by rw [e])
    simp [this]
theorem eqInt64S_refl (xs : List Int) (hn : xs.length ≤ 9223372036854775807) : Ev (fun k => laws_eqInt64S.f k xs xs) true := (eqInt64S_ev xs xs hn).eq (by simp)
theorem specIn_eq (a b c : Int) : spec_l1In.f a b c = some (decide (b ≤ a ∧ a ≤ c)) := by
  unfold spec_l1In.f
  by_cases h : a ≥ b
  · rw [if_pos h]; simp [show b ≤ a from h]
  · rw [if_neg h]; simp; intro h'; omega
theorem implIn_eq (a b c : Int) : impl_in.f a b c = some (decide (b ≤ a ∧ a ≤ c)) := by
  unfold impl_in.f
  by_cases h : a ≥ b
  · rw [if_pos h]; simp [show b ≤ a from h]
  · rw [if_neg h]; simp; intro h'; omega
def isW (x : Int) : Bool := decide (-1000000000000 ≤ x ∧ x ≤ 1000000000000)
theorem isW_iff {x : Int} : isW x = true ↔ -1000000000000 ≤ x ∧ x ≤ 1000000000000 := by simp [isW]
def addW (a b : Int) : Int × Int := if isW a = true ∧ isW b = true then (if isW (a + b) = true then (0, a + b) else (8, 0)) else (3, 0)
theorem addW_comm (a b : Int) : addW a b = addW b a := by
  unfold addW
  rw [Int.add_comm b a]; simp only [and_comm]
def mulP (a b : Int) : Int × Bool := if (a * b).natAbs ≤ 1000000000000 then (a * b, true) else (0, false)
theorem mulP_comm (a b : Int) : mulP a b = mulP b a := by
  unfold mulP
  rw [Int.mul_comm b a]
def mulW (a b : Int) : Int × Int := if isW a = true ∧ isW b = true then (if (mulP a b).2 = true then (0, (mulP a b).1) else (8, 0)) else (3, 0)
theorem mulW_comm (a b : Int) : mulW a b = mulW b a := by
  unfold mulW
  rw [mulP_comm b a]; simp only [and_comm]
theorem specWeight_eq (a : Int) : spec_l1Weight.f a = some (isW a) := by
  unfold spec_l1Weight.f
  rw [specIn_eq]; rfl
theorem implWeight_eq (a : Int) : impl_isWeight.f a = some (isW a) := by
  unfold impl_isWeight.f
  rw [implIn_eq]; rfl
def inC (x : Int) : Bool := decide (-1000000000 ≤ x ∧ x ≤ 1000000000)
def rowF (xs : List Int) : Int := if 4 < xs.length then 2 else if xs.all inC = true then 0 else 3
theorem specRow_l0 (xs : List Int) (hn : xs.length ≤ 9223372036854775807) : ∀ (d i : Nat), i + d = xs.length → Ev (fun k => spec_RowFault.l0 k xs (i : Int)) (if (xs.drop i).all inC = true then 0 else 3) := by
  intro d
  induction d with
  | zero =>
    intro i hd
    refine Kit.Ev.up ?_
    simp only [spec_RowFault.l0]
    refine Kit.Ev.neg (by omega) (Kit.Ev.const ?_)
    rw [List.drop_eq_nil_of_le (by omega)]; simp
  | succ d ih =>
    intro i hd
    refine Kit.Ev.up ?_
    simp only [spec_RowFault.l0]
    refine Kit.Ev.pos (by omega) (Kit.Ev.pos (by omega) ?_)
    rw [specIn_eq]
    simp only [Option.bind_some]
    rw [rd_drop (xs := xs) (i := i) (by omega), w64n (n := xs.length) (by omega) hn]
    by_cases h : inC (rd xs (i : Int)) = true
    · refine Kit.Ev.pos h ((ih (i + 1) (by omega)).eq ?_)
      simp [h]
    · refine Kit.Ev.neg h (Kit.Ev.const ?_)
      simp [h]
theorem specRow_ev (xs : List Int) (hn : xs.length ≤ 9223372036854775807) : Ev (fun k => spec_RowFault.f k xs) (rowF xs) := by
  unfold spec_RowFault.f
  refine Kit.Ev.ite (fun h => Kit.Ev.const ?_) (fun h => ?_)
  · simp [rowF, show 4 < xs.length by omega]
  · exact (specRow_l0 xs hn xs.length 0 (by omega)).eq (by simp [rowF, show ¬ 4 < xs.length by omega])
theorem implRow_l0 (xs : List Int) (hn : xs.length ≤ 9223372036854775807) : ∀ (d i : Nat), i + d = xs.length → Ev (fun k => impl_RowFault.l0 k xs (xs.length : Int) (i : Int)) (if (xs.drop i).all inC = true then 0 else 3) := by
  intro d
  induction d with
  | zero =>
    intro i hd
    refine Kit.Ev.up ?_
    simp only [impl_RowFault.l0]
    refine Kit.Ev.neg (by omega) (Kit.Ev.const ?_)
    rw [List.drop_eq_nil_of_le (by omega)]; simp
  | succ d ih =>
    intro i hd
    refine Kit.Ev.up ?_
    simp only [impl_RowFault.l0]
    refine Kit.Ev.pos (by omega) (Kit.Ev.pos (by omega) (Kit.Ev.pos (by omega) ?_))
    rw [implIn_eq]
    simp only [Option.bind_some]
    rw [rd_drop (xs := xs) (i := i) (by omega), w64n (n := xs.length) (by omega) hn]
    by_cases h : inC (rd xs (i : Int)) = true
    · refine Kit.Ev.pos h ((ih (i + 1) (by omega)).eq ?_)
      simp [h]
    · refine Kit.Ev.neg h (Kit.Ev.const ?_)
      simp [h]
theorem implRow_ev (xs : List Int) (hn : xs.length ≤ 9223372036854775807) : Ev (fun k => impl_RowFault.f k xs) (rowF xs) := by
  unfold impl_RowFault.f
  refine Kit.Ev.ite (fun h => Kit.Ev.const ?_) (fun h => ?_)
  · simp [rowF, show 4 < xs.length by omega]
  · exact (implRow_l0 xs hn xs.length 0 (by omega)).eq (by simp [rowF, show ¬ 4 < xs.length by omega])
def cmpR : List Int → List Int → Int
  | [], [] => 0
  | [], _ :: _ => -1
  | _ :: _, [] => 1
  | a :: xs, b :: ys => if a < b then -1 else if b < a then 1 else cmpR xs ys
theorem cmpR_len : ∀ (xs ys : List Int), xs = [] ∨ ys = [] → cmpR xs ys = if xs.length < ys.length then -1 else if ys.length < xs.length then 1 else 0
  | [], [], _ => rfl
  | [], _ :: _, _ => by simp [cmpR]
  | _ :: _, [], _ => by simp [cmpR]
  | _ :: _, _ :: _, h => by simp at h
theorem specCmp_l0 (xs ys : List Int) (hn : xs.length ≤ 9223372036854775807) : ∀ (d i : Nat), i + d = min xs.length ys.length → Ev (fun k => spec_CompareRows.l0 k xs ys (i : Int)) (cmpR (xs.drop i) (ys.drop i)) := by
  intro d
  induction d with
  | zero =>
    intro i hd
    refine Kit.Ev.up (Kit.Ev.up ?_)
    simp only [spec_CompareRows.l0, spec_CompareRows.j1]
    have hend : Ev (fun _ : Nat => if (xs.length : Int) < (ys.length : Int) then some (-1 : Int) else if (xs.length : Int) > (ys.length : Int) then some 1 else some 0) (cmpR (xs.drop i) (ys.drop i)) := by
      refine Kit.Ev.const ?_
      rw [cmpR_len _ _ (by
        by_cases h : i = xs.length
        · exact .inl (List.drop_eq_nil_of_le (by omega))
        · exact .inr (List.drop_eq_nil_of_le (by omega)))]
      simp only [List.length_drop]
      by_cases h1 : xs.length < ys.length
      · rw [if_pos (by omega), if_pos (by omega)]
      · by_cases h2 : ys.length < xs.length
        · rw [if_neg (by omega), if_pos (by omega), if_neg (by omega), if_pos (by omega)]
        · rw [if_neg (by omega), if_neg (by omega), if_neg (by omega), if_neg (by omega)]
    refine Kit.Ev.ite (fun h => ?_) (fun h => ?_)
    · refine Kit.Ev.neg (by simp; omega) hend
    · exact Kit.Ev.neg (by simp) hend
  | succ d ih =>
    intro i hd
    refine Kit.Ev.up (Kit.Ev.up ?_)
    simp only [spec_CompareRows.l0, spec_CompareRows.j1]
    refine Kit.Ev.pos (by omega) (Kit.Ev.pos (by simp; omega) (Kit.Ev.pos (by omega) (Kit.Ev.pos (by omega) (Kit.Ev.pos (by omega) ?_))))
    rw [rd_drop (xs := xs) (i := i) (by omega), rd_drop (xs := ys) (i := i) (by omega), w64n (n := xs.length) (by omega) hn]
    simp only [cmpR]
    refine Kit.Ev.ite2 (fun _ => Kit.Ev.const rfl) (fun _ => ?_)
    exact Kit.Ev.ite2 (fun _ => Kit.Ev.const rfl) (fun _ => ih (i + 1) (by omega))
theorem specCmp_ev (xs ys : List Int) (hn : xs.length ≤ 9223372036854775807) : Ev (fun k => spec_CompareRows.f k xs ys) (cmpR xs ys) := specCmp_l0 xs ys hn _ 0 (Nat.zero_add _)
theorem cmp64_eq (a b : Int) : cmp_Compare_int64.f a b = some (if a < b then -1 else if b < a then 1 else 0) := by
  unfold cmp_Compare_int64.f cmp_isNaN_int64.f
  simp only [bne_self_eq_false, Option.bind_some, Bool.false_eq_true, if_false]
  by_cases h1 : a < b
  · simp [h1]
  · by_cases h2 : b < a <;> simp [h1, h2]
theorem cmpI_eq (a b : Int) : cmp_Compare_int.f a b = some (if a < b then -1 else if b < a then 1 else 0) := by
  unfold cmp_Compare_int.f cmp_isNaN_int.f
  simp only [bne_self_eq_false, Option.bind_some, Bool.false_eq_true, if_false]
  by_cases h1 : a < b
  · simp [h1]
  · by_cases h2 : b < a <;> simp [h1, h2]
theorem implCmp_l0 (xs ys : List Int) (hn : xs.length ≤ 9223372036854775807) : ∀ (d i : Nat), i + d = min xs.length ys.length → Ev (fun k => impl_CompareRows.l0 k xs ys ((min xs.length ys.length : Nat) : Int) (i : Int)) (cmpR (xs.drop i) (ys.drop i)) := by
  intro d
  induction d with
  | zero =>
    intro i hd
    refine Kit.Ev.up ?_
    simp only [impl_CompareRows.l0]
    refine Kit.Ev.neg (by omega) ?_
    rw [cmpI_eq]
    refine Kit.Ev.const ?_
    rw [cmpR_len _ _ (by
      by_cases h : i = xs.length
      · exact .inl (List.drop_eq_nil_of_le (by omega))
      · exact .inr (List.drop_eq_nil_of_le (by omega)))]
    simp only [List.length_drop, Option.bind_some]
    by_cases h1 : xs.length < ys.length
    · rw [if_pos (by omega), if_pos (by omega)]
    · by_cases h2 : ys.length < xs.length
      · rw [if_neg (by omega), if_pos (by omega), if_neg (by omega), if_pos (by omega)]
      · rw [if_neg (by omega), if_neg (by omega), if_neg (by omega), if_neg (by omega)]
  | succ d ih =>
    intro i hd
    refine Kit.Ev.up ?_
    simp only [impl_CompareRows.l0]
    refine Kit.Ev.pos (by omega) (Kit.Ev.pos (by omega) (Kit.Ev.pos (by omega) (Kit.Ev.pos (by omega) ?_)))
    rw [rd_drop (xs := xs) (i := i) (by omega), rd_drop (xs := ys) (i := i) (by omega), w64n (n := xs.length) (by omega) hn, cmp64_eq]
    simp only [cmpR, Option.bind_some]
    by_cases h1 : rd xs (i : Int) < rd ys (i : Int)
    · simp only [h1, if_true]; exact Kit.Ev.const rfl
    · by_cases h2 : rd ys (i : Int) < rd xs (i : Int)
      · simp only [h1, h2, if_true, if_false]; exact Kit.Ev.const rfl
      · simp only [h1, h2, if_true, if_false]; exact ih (i + 1) (by omega)
theorem implCmp_ev (xs ys : List Int) (hn : xs.length ≤ 9223372036854775807) : Ev (fun k => impl_CompareRows.f k xs ys) (cmpR xs ys) := by
  unfold impl_CompareRows.f
  refine Kit.Ev.ite (fun h => ?_) (fun h => ?_)
  · have := implCmp_l0 xs ys hn _ 0 (Nat.zero_add _)
    rwa [Nat.min_eq_right (by omega)] at this
  · have := implCmp_l0 xs ys hn _ 0 (Nat.zero_add _)
    rwa [Nat.min_eq_left (by omega)] at this
theorem slicesEq_l0 (xs ys : List Int) (hn : xs.length ≤ 9223372036854775807) (hl : xs.length = ys.length) : ∀ (d i : Nat), i + d = xs.length → Ev (fun k => slices_Equal_int64_int64.l0 k xs ys (xs.length : Int) (i : Int)) (decide (xs.drop i = ys.drop i)) := by
  intro d
  induction d with
  | zero =>
    intro i hd
    refine Kit.Ev.up ?_
    simp only [slices_Equal_int64_int64.l0]
    refine Kit.Ev.neg (by omega) (Kit.Ev.const ?_)
    rw [List.drop_eq_nil_of_le (by omega), List.drop_eq_nil_of_le (by omega)]; simp
  | succ d ih =>
    intro i hd
    refine Kit.Ev.up ?_
    simp only [slices_Equal_int64_int64.l0]
    refine Kit.Ev.pos (by omega) (Kit.Ev.pos (by omega) (Kit.Ev.pos (by omega) (Kit.Ev.pos (by omega) ?_)))
    rw [rd_drop (xs := xs) (i := i) (by omega), rd_drop (xs := ys) (i := i) (by omega), w64n (n := xs.length) (by omega) hn]
    refine Kit.Ev.ite (fun h => ?_) (fun h => Kit.Ev.const ?_)
    · exact (ih (i + 1) (by omega)).eq (by rw [h]; simp)
    · simp [h]
theorem slicesEq_ev (xs ys : List Int) (hn : xs.length ≤ 9223372036854775807) : Ev (fun k => slices_Equal_int64_int64.f k xs ys) (decide (xs = ys)) := by
  unfold slices_Equal_int64_int64.f
  refine Kit.Ev.ite (fun h => ?_) (fun h => Kit.Ev.const ?_)
  · exact (slicesEq_l0 xs ys hn (by omega) xs.length 0 (by omega)).eq (by simp)
  · have : xs ≠ ys := fun e => h (by rw [e])
    simp [this]
def longB (w : Int) (l : List S65) : Bool := l.all (fun x => decide (w ≤ (x.f0.length : Int)))
theorem rdE_at {xs : List S65} {i : Nat} (h : i < xs.length) : rd_T65 xs (i : Int) = xs[i] := by simp [rd_T65, h]
theorem rdE_drop {xs : List S65} {i : Nat} (h : i < xs.length) : xs.drop i = rd_T65 xs (i : Int) :: xs.drop (i + 1) := by
  rw [rdE_at h]; exact List.drop_eq_getElem_cons h
theorem rdE_mem {xs : List S65} {i : Nat} (h : i < xs.length) : rd_T65 xs (i : Int) ∈ xs := by
  rw [rdE_at h]; exact List.getElem_mem h
theorem indexE_l0 (p : Nat → List Int → Int → Option Bool) (q : List Int → Int → Bool) (xs : List S65) (hn : xs.length ≤ 1048576) (hp : ∀ x ∈ xs, Ev (fun k => p k x.f0 x.f1) (q x.f0 x.f1)) : ∀ (d i : Nat), i + d = xs.length → ∃ r : Int, Ev (fun k => indexE.l0 p k xs (xs.length : Int) (i : Int)) r ∧ (0 ≤ r ↔ (xs.drop i).any (fun x => q x.f0 x.f1) = true) := by
  intro d
  induction d with
  | zero =>
    intro i hd
    refine ⟨-1, Kit.Ev.up ?_, ?_⟩
    · simp only [indexE.l0]
      exact Kit.Ev.neg (by omega) (Kit.Ev.const rfl)
    · rw [List.drop_eq_nil_of_le (by omega)]; simp
  | succ d ih =>
    intro i hd
    have hr := rdE_drop (xs := xs) (i := i) (by omega)
    have hm := hp _ (rdE_mem (xs := xs) (i := i) (by omega))
    by_cases h : q (rd_T65 xs (i : Int)).f0 (rd_T65 xs (i : Int)).f1 = true
    · rw [h] at hm
      refine ⟨(i : Int), Kit.Ev.up ?_, ?_⟩
      · simp only [indexE.l0]
        exact Kit.Ev.pos (by omega) (Kit.Ev.pos (by omega) (Kit.Ev.pos (by omega) (Kit.Ev.then hm (Kit.Ev.pos rfl (Kit.Ev.const rfl)))))
      · rw [hr, List.any_cons, h]
        constructor
        · intro _; rfl
        · intro _; omega
    · obtain ⟨r, e, hiff⟩ := ih (i + 1) (by omega)
      have h' : q (rd_T65 xs (i : Int)).f0 (rd_T65 xs (i : Int)).f1 = false := by simpa using h
      rw [h'] at hm
      refine ⟨r, Kit.Ev.up ?_, ?_⟩
      · simp only [indexE.l0]
        rw [w64n (n := xs.length) (by omega) (by omega)]
        exact Kit.Ev.pos (by omega) (Kit.Ev.pos (by omega) (Kit.Ev.pos (by omega) (Kit.Ev.then hm (Kit.Ev.neg (by decide) e))))
      · rw [hr, List.any_cons, h', Bool.false_or]
        exact hiff
theorem containsE_ev (p : Nat → List Int → Int → Option Bool) (q : List Int → Int → Bool) (xs : List S65) (hn : xs.length ≤ 1048576) (hp : ∀ x ∈ xs, Ev (fun k => p k x.f0 x.f1) (q x.f0 x.f1)) : Ev (fun k => containsE.f p k xs) (xs.any (fun x => q x.f0 x.f1)) := by
  unfold containsE.f indexE.f
  obtain ⟨r, e, h⟩ := indexE_l0 p q xs hn hp xs.length 0 (by omega)
  refine Kit.Ev.then e (Kit.Ev.const ?_)
  rw [List.drop_zero] at h
  cases c : xs.any (fun x => q x.f0 x.f1) with
  | true => rw [c] at h; have := h.mpr rfl; simp; omega
  | false => rw [c] at h; have : ¬ 0 ≤ r := fun g => by simpa using h.mp g
             simp; omega
theorem areLong_ev (w : Int) (xs : List S65) (hn : xs.length ≤ 1048576) : Ev (fun k => impl_areLong.f k xs w) (longB w xs) := by
  unfold impl_areLong.f
  refine Kit.Ev.then (containsE_ev _ (fun l _ => decide ((l.length : Int) < w)) xs hn (fun x _ => Kit.Ev.const rfl)) (Kit.Ev.const ?_)
  congr 1
  unfold longB
  rw [Bool.eq_iff_iff]
  simp only [Bool.not_eq_true', List.any_eq_false, decide_eq_true_eq, List.all_eq_true]
  constructor
  · intro h x hx; have := h x hx; omega
  · intro h x hx; have := h x hx; omega
theorem specShort_l0 (w : Int) (xs : List S65) (hn : xs.length ≤ 1048576) : ∀ (d i : Nat), i + d = xs.length → Ev (fun k => spec_l4Short.l0 k xs w (i : Int)) (!longB w (xs.drop i)) := by
  intro d
  induction d with
  | zero =>
    intro i hd
    refine Kit.Ev.up ?_
    simp only [spec_l4Short.l0]
    refine Kit.Ev.neg (by omega) (Kit.Ev.const ?_)
    rw [List.drop_eq_nil_of_le (by omega)]; simp [longB]
  | succ d ih =>
    intro i hd
    refine Kit.Ev.up ?_
    simp only [spec_l4Short.l0]
    rw [rdE_drop (xs := xs) (i := i) (by omega), w64n (n := xs.length) (by omega) (by omega)]
    refine Kit.Ev.pos (by omega) (Kit.Ev.pos (by omega) (Kit.Ev.ite (fun h => Kit.Ev.const ?_) (fun h => (ih (i + 1) (by omega)).eq ?_)))
    · have : ¬ w ≤ ((rd_T65 xs (i : Int)).f0.length : Int) := by omega
      simp [longB, this]
    · have : w ≤ ((rd_T65 xs (i : Int)).f0.length : Int) := by omega
      simp [longB, this]
theorem specShort_ev (w : Int) (xs : List S65) (hn : xs.length ≤ 1048576) : Ev (fun k => spec_l4Short.f k xs w) (!longB w xs) := by
  unfold spec_l4Short.f
  exact (specShort_l0 w xs hn xs.length 0 (by omega)).eq (by simp)
/-- What a mark writes: count by count. -/
def seqF (f : Int → Int) (a : Int) : Nat → List Int
  | 0 => []
  | n + 1 => f a :: seqF f (a + 1) n
theorem seqF_len (f : Int → Int) : ∀ (n : Nat) (a : Int), (seqF f a n).length = n
  | 0, _ => rfl
  | n + 1, a => by simp only [seqF, List.length_cons, seqF_len f n]
theorem rd_mid (pre rest : List Int) (x : Int) : rd (pre ++ x :: rest) (pre.length : Int) = x := by
  rw [Kit.rd_nat, List.getD_eq_getElem?_getD, List.getElem?_append_right (Nat.le_refl _)]
  simp
def cellsN : List (List Int) → Nat
  | [] => 0
  | r :: rs => r.length + cellsN rs
def seqSS (a : Int) : List (List Int) → List (List Int)
  | [] => []
  | r :: rs => seqF (fun x => x) a r.length :: seqSS (a + r.length) rs
theorem seqSS_len : ∀ (l : List (List Int)) (a : Int), (seqSS a l).length = l.length
  | [], _ => rfl
  | r :: rs, a => by simp only [seqSS, List.length_cons, seqSS_len rs]
theorem getD_mid (pre rest : List (List Int)) (x : List Int) : (pre ++ x :: rest).getD ((pre.length : Int)).toNat [] = x := by
  rw [Int.toNat_natCast, List.getD_eq_getElem?_getD, List.getElem?_append_right (Nat.le_refl _)]
  simp
/-- The rows are no longer than any machine's. -/
def Fine (l : List S65) : Prop := l.length ≤ 1048576 ∧ ∀ x ∈ l, x.f0.length ≤ 1048576
theorem Fine.n {l : List S65} (h : Fine l) : l.length ≤ 9223372036854775807 := by have := h.1; omega
theorem Fine.r {l : List S65} (h : Fine l) : ∀ x ∈ l, x.f0.length ≤ 9223372036854775807 := fun x hx => by have := h.2 x hx; omega
def setG : Option (List Int) → List S65 → Int
  | _, [] => 0
  | p, x :: xs => if rowF x.f0 = 0 then (if isW x.f1 = true ∧ x.f1 ≠ 0 then (match p with | some q => if cmpR q x.f0 ≥ 0 then 1 else setG (some x.f0) xs | none => setG (some x.f0) xs) else 3) else rowF x.f0
def setF (l : List S65) : Int := if 200 < l.length then 2 else setG none l
def prevE (xs : List S65) (i : Nat) : Option (List Int) := if i = 0 then none else some (rd_T65 xs ((i - 1 : Nat) : Int)).f0
theorem prevE_succ (xs : List S65) (i : Nat) : prevE xs (i + 1) = some (rd_T65 xs (i : Int)).f0 := by simp [prevE]
theorem w64p {i : Nat} (h : 0 < i) (hn : i ≤ 9223372036854775807) : wrap64 ((i : Int) - 1) = ((i - 1 : Nat) : Int) := by
  rw [Kit.w64 (by omega) (by omega)]; omega
def keysL (w : Nat) : Option (List Int) → List S65 → List (List Int)
  | _, [] => []
  | p, x :: xs => if p = some (x.f0.take w) then keysL w (some (x.f0.take w)) xs else x.f0.take w :: keysL w (some (x.f0.take w)) xs
def l5AskedF (w : Int) (l : List S65) : Int := if 0 ≤ w ∧ w ≤ 4 then (if setF l = 0 then (if longB w l = true then 0 else 1) else setF l) else 3
def keysF (w : Int) (l : List S65) : Int × List (List Int) := if l5AskedF w l = 0 then (0, keysL w.toNat none l) else (l5AskedF w l, [])
theorem keysL_fine (w : Nat) : ∀ (l : List S65) (p : Option (List Int)), (keysL w p l).length ≤ l.length ∧ ∀ r ∈ keysL w p l, r.length ≤ w
  | [], _ => ⟨by simp [keysL], by simp [keysL]⟩
  | x :: xs, p => by
    obtain ⟨a, b⟩ := keysL_fine w xs (some (x.f0.take w))
    simp only [keysL]
    by_cases c : p = some (x.f0.take w)
    · rw [if_pos c]; exact ⟨by simp only [List.length_cons]; omega, b⟩
    · rw [if_neg c]
      refine ⟨by simp only [List.length_cons]; omega, fun r hr => ?_⟩
      rcases List.mem_cons.mp hr with rfl | hr
      · rw [List.length_take]; omega
      · exact b r hr
theorem cellsN_four : ∀ {l : List (List Int)}, (∀ r ∈ l, r.length ≤ 4) → cellsN l ≤ 4 * l.length
  | [], _ => by simp [cellsN]
  | r :: rs, h => by
    have := h r (by simp)
    have := cellsN_four (l := rs) (fun y hy => h y (by simp [hy]))
    simp only [cellsN, List.length_cons]; omega
theorem l5Asked_in {w : Int} {l : List S65} (h : l5AskedF w l = 0) : (0 ≤ w ∧ w ≤ 4) ∧ setF l = 0 ∧ longB w l = true := by
  unfold l5AskedF at h
  by_cases h1 : 0 ≤ w ∧ w ≤ 4
  · rw [if_pos h1] at h
    by_cases h2 : setF l = 0
    · rw [if_pos h2] at h
      by_cases h3 : longB w l = true
      · exact ⟨h1, h2, h3⟩
      · rw [if_neg h3] at h; omega
    · rw [if_neg h2] at h; exact absurd h h2
  · rw [if_neg h1] at h; omega
theorem keysF_fine (w : Int) {l : List S65} (hx : Fine l) : (keysF w l).2.length ≤ 1048576 ∧ (∀ r ∈ (keysF w l).2, r.length ≤ 4) := by
  unfold keysF
  by_cases h : l5AskedF w l = 0
  · rw [if_pos h]
    obtain ⟨h1, _, _⟩ := l5Asked_in h
    obtain ⟨a, b⟩ := keysL_fine w.toNat l none
    exact ⟨Nat.le_trans a hx.1, fun r hr => by have := b r hr; omega⟩
  · rw [if_neg h]; exact ⟨by simp, by simp⟩
theorem longB_at {w : Int} {l : List S65} (h : longB w l = true) {i : Nat} (hi : i < l.length) : w ≤ ((rd_T65 l (i : Int)).f0.length : Int) := by
  have := List.all_eq_true.mp h _ (rdE_mem (xs := l) (i := i) hi)
  simpa using this
theorem cmpR_anti : ∀ xs ys : List Int, cmpR xs ys = - cmpR ys xs
  | [], [] => rfl
  | [], _ :: _ => rfl
  | _ :: _, [] => rfl
  | a :: xs, b :: ys => by
    simp only [cmpR]
    have ih := cmpR_anti xs ys
    by_cases h1 : a < b
    · rw [if_pos h1, if_neg (by omega), if_pos h1]
    · by_cases h2 : b < a
      · rw [if_neg h1, if_pos h2, if_pos h2]; rfl
      · rw [if_neg h1, if_neg h2, if_neg h2, if_neg h1]; exact ih
theorem specSet_l0 (xs : List S65) (hx : Fine xs) : ∀ (d i : Nat), i + d = xs.length → Ev (fun k => spec_SetFault.l0 k xs (i : Int)) (setG (prevE xs i) (xs.drop i)) := by
  have hn := hx.n
  intro d
  induction d with
  | zero =>
    intro i hd
    refine Kit.Ev.up ?_
    simp only [spec_SetFault.l0]
    refine Kit.Ev.neg (by omega) (Kit.Ev.const ?_)
    rw [List.drop_eq_nil_of_le (by omega)]; simp [setG]
  | succ d ih =>
    intro i hd
    have hm := hx.r _ (rdE_mem (xs := xs) (i := i) (by omega))
    have hj : ∀ b : Bool, b = ! decide (isW (rd_T65 xs (i : Int)).f1 = true ∧ (rd_T65 xs (i : Int)).f1 ≠ 0) → rowF (rd_T65 xs (i : Int)).f0 = 0 → Ev (fun k => spec_SetFault.j1 k xs (i : Int) b) (setG (prevE xs i) (xs.drop i)) := by
      intro b hb hrow
      rw [rdE_drop (xs := xs) (i := i) (by omega)]
      simp only [setG]
      rw [if_pos hrow]
      refine Kit.Ev.up ?_
      simp only [spec_SetFault.j1]
      by_cases hw : isW (rd_T65 xs (i : Int)).f1 = true ∧ (rd_T65 xs (i : Int)).f1 ≠ 0
      · rw [if_pos hw]
        refine Kit.Ev.neg (by rw [hb]; simp [hw]) ?_
        by_cases h0 : i = 0
        · subst h0
          refine Kit.Ev.neg (by omega) ?_
          rw [w64n (n := xs.length) (by omega) hn]
          have := ih 1 (by omega)
          rw [show prevE xs 1 = some (rd_T65 xs ((0 : Nat) : Int)).f0 from prevE_succ xs 0] at this
          simpa [prevE] using this
        · refine Kit.Ev.pos (by omega) (Kit.Ev.pos (by omega) (Kit.Ev.pos (by omega) ?_))
          rw [w64p (by omega) (by omega)]
          refine Kit.Ev.pos (by omega) (Kit.Ev.pos (by omega) ?_)
          refine Kit.Ev.then (specCmp_ev _ _ hm) ?_
          rw [w64n (n := xs.length) (by omega) hn, show prevE xs i = some (rd_T65 xs ((i - 1 : Nat) : Int)).f0 from by simp [prevE, h0]]
          dsimp only
          rw [cmpR_anti (rd_T65 xs ((i - 1 : Nat) : Int)).f0]
          refine Kit.Ev.ite (fun hc => Kit.Ev.const ?_) (fun hc => ?_)
          · rw [if_pos (by omega)]
          · rw [if_neg (by omega), ← prevE_succ]
            exact ih (i + 1) (by omega)
      · rw [if_neg hw]
        exact Kit.Ev.pos (by rw [hb]; simp only [hw, decide_false]; rfl) (Kit.Ev.const rfl)
    refine Kit.Ev.up ?_
    simp only [spec_SetFault.l0]
    refine Kit.Ev.pos (by omega) (Kit.Ev.pos (by omega) (Kit.Ev.then (specRow_ev _ hm) ?_))
    refine Kit.Ev.ite (fun hrow => ?_) (fun hrow => Kit.Ev.const ?_)
    · rw [specWeight_eq]
      simp only [Option.bind_some]
      refine Kit.Ev.ite (fun hw => hj _ ?_ hrow) (fun hw => hj _ ?_ hrow)
      · by_cases hz : (rd_T65 xs (i : Int)).f1 = 0 <;> simp [hw, hz]
      · simp [hw]
    · rw [rdE_drop (xs := xs) (i := i) (by omega)]
      simp only [setG]
      rw [if_neg hrow]
theorem specSet_ev (xs : List S65) (hx : Fine xs) : Ev (fun k => spec_SetFault.f k xs) (setF xs) := by
  unfold spec_SetFault.f setF
  refine Kit.Ev.ite (fun h => Kit.Ev.const ?_) (fun h => ?_)
  · rw [if_pos (by omega)]
  · rw [if_neg (by omega)]
    exact (specSet_l0 xs hx xs.length 0 (by omega)).eq (by simp [prevE])
theorem specAsked5_ev (w : Int) {l : List S65} (hx : Fine l) : Ev (fun k => spec_l5Asked.f k l w) (l5AskedF w l) := by
  unfold spec_l5Asked.f l5AskedF
  refine Kit.Ev.call (specIn_eq _ _ _) ?_
  by_cases c : 0 ≤ w ∧ w ≤ 4
  · rw [if_pos c]
    refine Kit.Ev.pos (decide_eq_true c) (Kit.Ev.then (specSet_ev l hx) (Kit.Ev.ite2 (fun _ => ?_) (fun _ => Kit.Ev.const rfl)))
    refine Kit.Ev.then (specShort_ev w l hx.1) (Kit.Ev.ite (fun h => Kit.Ev.const ?_) (fun h => Kit.Ev.const ?_))
    · rw [if_neg (by simpa using h)]
    · rw [if_pos (by simpa using h)]
  · rw [if_neg c]
    exact Kit.Ev.neg (by simpa using c) (Kit.Ev.const rfl)
theorem markInt64S_l0 : ∀ (rest pre : List Int) (a : Int), 0 ≤ a → a + rest.length ≤ 4611686018427387904 → pre.length + rest.length ≤ 4611686018427387904 → Ev (fun k => laws_markInt64S.l0 k (pre ++ rest) a (pre.length : Int)) (a + rest.length, pre ++ seqF (fun x => x) a rest.length)
  | [], pre, a, h0, h1, h2 => by
    refine Kit.Ev.up ?_
    simp only [laws_markInt64S.l0]
    exact Kit.Ev.neg (by simp) (Kit.Ev.const (by simp [seqF]))
  | x :: rest, pre, a, h0, h1, h2 => by
    simp only [List.length_cons] at h1 h2
    refine Kit.Ev.up ?_
    simp only [laws_markInt64S.l0]
    refine Kit.Ev.pos (by simp only [List.length_append, List.length_cons]; omega) (Kit.Ev.pos (by omega) ?_)
    have el : wrap64 ((pre.length : Int) + 1) = ((pre ++ [a]).length : Int) := by rw [Kit.w64 (by omega) (by omega)]; simp
    have es : (pre ++ x :: rest).set (pre.length : Int).toNat (a) = (pre ++ [a]) ++ rest := by simp
    rw [es, el, Kit.w64 (x := a + 1) (by omega) (by omega)]
    refine (markInt64S_l0 rest (pre ++ [a]) (a + 1) (by omega) (by omega) (by rw [List.length_append]; simp only [List.length_cons, List.length_nil]; omega)).eq ?_
    refine Prod.ext ?_ ?_
    · simp only [List.length_cons]; omega
    · simp only [List.length_cons, seqF, List.append_assoc, List.cons_append, List.nil_append]
theorem markInt64S_ev (l : List Int) (a : Int) (h0 : 0 ≤ a) (h1 : a + l.length ≤ 4611686018427387904) : Ev (fun k => laws_markInt64S.f k l a) (a + l.length, seqF (fun x => x) a l.length) := by
  unfold laws_markInt64S.f
  exact markInt64S_l0 l [] a h0 h1 (by simp only [List.length_nil]; omega)
theorem heldInt64S_l0 : ∀ (n : Nat) (pre : List Int) (a : Int), 0 ≤ a → a + n ≤ 4611686018427387904 → pre.length + n ≤ 4611686018427387904 → Ev (fun k => laws_heldInt64S.l0 k (pre ++ seqF (fun x => x) a n) a (pre.length : Int)) (a + n)
  | 0, pre, a, h0, h1, h2 => by
    refine Kit.Ev.up ?_
    simp only [laws_heldInt64S.l0, seqF]
    exact Kit.Ev.neg (by simp) (Kit.Ev.const (by simp))
  | n + 1, pre, a, h0, h1, h2 => by
    refine Kit.Ev.up ?_
    simp only [laws_heldInt64S.l0, seqF]
    refine Kit.Ev.pos (by simp only [List.length_append, List.length_cons]; omega) (Kit.Ev.pos (by omega) (Kit.Ev.pos (rd_mid _ _ _) ?_))
    have el : wrap64 ((pre.length : Int) + 1) = ((pre ++ [a]).length : Int) := by rw [Kit.w64 (by omega) (by omega)]; simp
    have es : pre ++ (a) :: seqF (fun x => x) (a + 1) n = (pre ++ [a]) ++ seqF (fun x => x) (a + 1) n := by simp
    rw [es, el, Kit.w64 (x := a + 1) (by omega) (by omega)]
    exact (heldInt64S_l0 n (pre ++ [a]) (a + 1) (by omega) (by omega) (by rw [List.length_append]; simp only [List.length_cons, List.length_nil]; omega)).eq (by omega)
theorem heldInt64S_ev (n : Nat) (a : Int) (h0 : 0 ≤ a) (h1 : a + n ≤ 4611686018427387904) : Ev (fun k => laws_heldInt64S.f k (seqF (fun x => x) a n) a) (a + n) := by
  unfold laws_heldInt64S.f
  exact heldInt64S_l0 n [] a h0 h1 (by simp only [List.length_nil]; omega)
theorem markSS_l0 : ∀ (rest pre : List (List Int)) (a : Int), 0 ≤ a → a + cellsN rest ≤ 4611686018427387904 → pre.length + rest.length ≤ 4611686018427387904 → Ev (fun k => laws_markInt64SS.l0 k (pre ++ rest) a (pre.length : Int)) (a + cellsN rest, pre ++ seqSS a rest)
  | [], pre, a, h0, h1, h2 => by
    refine Kit.Ev.up ?_
    simp only [laws_markInt64SS.l0]
    exact Kit.Ev.neg (by simp) (Kit.Ev.const (by simp [seqSS, cellsN]))
  | r :: rest, pre, a, h0, h1, h2 => by
    simp only [List.length_cons, cellsN] at h1 h2
    refine Kit.Ev.up ?_
    simp only [laws_markInt64SS.l0]
    rw [getD_mid]
    refine Kit.Ev.pos (by simp only [List.length_append, List.length_cons]; omega) (Kit.Ev.pos (by omega) (Kit.Ev.then (markInt64S_ev r a h0 (by omega)) ?_))
    simp only
    have el : wrap64 ((pre.length : Int) + 1) = ((pre ++ [seqF (fun x => x) a r.length]).length : Int) := by rw [Kit.w64 (by omega) (by omega)]; simp
    have es : (pre ++ r :: rest).set (pre.length : Int).toNat (seqF (fun x => x) a r.length) = (pre ++ [seqF (fun x => x) a r.length]) ++ rest := by simp
    rw [es, el]
    refine (markSS_l0 rest (pre ++ [seqF (fun x => x) a r.length]) (a + r.length) (by omega) (by omega) (by rw [List.length_append]; simp only [List.length_cons, List.length_nil]; omega)).eq ?_
    refine Prod.ext ?_ ?_
    · simp only [cellsN]; omega
    · simp only [seqSS, List.append_assoc, List.cons_append, List.nil_append]
theorem markSS_ev (l : List (List Int)) (a : Int) (h0 : 0 ≤ a) (h1 : a + cellsN l ≤ 4611686018427387904) (h2 : l.length ≤ 4611686018427387904) : Ev (fun k => laws_markInt64SS.f k l a) (a + cellsN l, seqSS a l) := by
  unfold laws_markInt64SS.f
  exact markSS_l0 l [] a h0 h1 (by simp only [List.length_nil]; omega)
theorem eqSS_refl (l : List (List Int)) (hn : l.length ≤ 9223372036854775807) (hr : ∀ r ∈ l, r.length ≤ 9223372036854775807) : Ev (fun k => laws_eqInt64SS.f k l l) true := by
  have L : ∀ (d i : Nat), i + d = l.length → Ev (fun k => laws_eqInt64SS.l0 k l l (i : Int)) true := by
    intro d
    induction d with
    | zero =>
      intro i hd
      refine Kit.Ev.up ?_
      simp only [laws_eqInt64SS.l0]
      exact Kit.Ev.neg (by omega) (Kit.Ev.const rfl)
    | succ d ih =>
      intro i hd
      refine Kit.Ev.up ?_
      simp only [laws_eqInt64SS.l0]
      have hm : rd_L1 l (i : Int) ∈ l := by
        have hi : i < l.length := by omega
        simp only [rd_L1, Int.toNat_natCast, List.getD_eq_getElem?_getD, List.getElem?_eq_getElem hi, Option.getD_some]
        exact List.getElem_mem hi
      refine Kit.Ev.pos (by omega) (Kit.Ev.pos (by omega) (Kit.Ev.pos (by omega) (Kit.Ev.then (eqInt64S_refl _ (hr _ hm)) (Kit.Ev.pos rfl ?_))))
      rw [w64n (n := l.length) (by omega) hn]
      exact ih (i + 1) (by omega)
  unfold laws_eqInt64SS.f
  exact Kit.Ev.pos rfl (L l.length 0 (by omega))
theorem toSS_l0 (xs : List (List Int)) (hn : xs.length ≤ 9223372036854775807) (hr : ∀ r ∈ xs, r.length ≤ 1048576) : ∀ (d i : Nat) (ys : List (List Int)), i + d = xs.length → ys.length = xs.length → (∀ j, j < i → ys[j]? = xs[j]?) → Ev (fun k => laws_toInt64SS.l0 k xs ys (i : Int)) xs := by
  intro d
  induction d with
  | zero =>
    intro i ys hd hl he
    refine Kit.Ev.up ?_
    simp only [laws_toInt64SS.l0]
    refine Kit.Ev.neg (by omega) (Kit.Ev.const ?_)
    congr 1
    apply List.ext_getElem?
    intro j
    by_cases hj : j < i
    · exact he j hj
    · rw [List.getElem?_eq_none (by omega), List.getElem?_eq_none (by omega)]
  | succ d ih =>
    intro i ys hd hl he
    refine Kit.Ev.up ?_
    simp only [laws_toInt64SS.l0]
    have hi : i < xs.length := by omega
    have hm : rd_L1 xs (i : Int) = xs[i] := by simp only [rd_L1, Int.toNat_natCast, List.getD_eq_getElem?_getD, List.getElem?_eq_getElem hi, Option.getD_some]
    rw [hm]
    refine Kit.Ev.pos (by omega) (Kit.Ev.pos (by omega) (Kit.Ev.then (toInt64S_ev _ (hr _ (List.getElem_mem hi))) (Kit.Ev.pos (by omega) ?_)))
    rw [w64n (n := xs.length) (by omega) hn, Int.toNat_natCast]
    refine ih (i + 1) _ (by omega) (by simpa using hl) (fun j hj => ?_)
    rw [List.getElem?_set]
    by_cases e : i = j
    · subst e
      rw [if_pos rfl, if_pos (by omega), List.getElem?_eq_getElem (by omega)]
    · rw [if_neg e]
      exact he j (by omega)
theorem toSS_ev (xs : List (List Int)) (hn : xs.length ≤ 1048576) (hr : ∀ r ∈ xs, r.length ≤ 1048576) : Ev (fun k => laws_toInt64SS.f k xs) xs := by
  unfold laws_toInt64SS.f
  refine Kit.Ev.pos (by omega) (Kit.Ev.pos (by omega) ?_)
  exact toSS_l0 xs (by omega) hr xs.length 0 _ (by omega) (by simp) (fun j hj => by omega)
theorem szRow_eq {l : List Int} {t : Int} (h0 : 0 ≤ t) (h1 : t ≤ 1048576) (hl : l.length ≤ 9223372036854775807) : laws_szInt64S.f l t = some (if t - (l.length : Int) < 0 then -1 else t - (l.length : Int)) := by
  unfold laws_szInt64S.f
  rw [Kit.w64 (by omega) (by omega)]
  by_cases h : t - (l.length : Int) < 0
  · rw [if_pos h, if_pos h]
  · rw [if_neg h, if_neg h]
theorem cellsN_le : ∀ (l : List (List Int)), ∀ r ∈ l, r.length ≤ cellsN l
  | [], _, h => by simp at h
  | x :: l, r, h => by
    simp only [cellsN]
    rcases List.mem_cons.mp h with rfl | h
    · omega
    · have := cellsN_le l r h; omega
theorem szSS_some (l : List (List Int)) (hn : l.length ≤ 9223372036854775807) (hr : ∀ r ∈ l, r.length ≤ 9223372036854775807) : ∃ z, Ev (fun k => laws_szInt64SS.f k l 1048576) z ∧ (0 ≤ z → l.length ≤ 1048576 ∧ cellsN l ≤ 1048576) := by
  have L : ∀ (d i : Nat) (t : Int), i + d = l.length → 0 ≤ t → t ≤ 1048576 → ∃ z, Ev (fun k => laws_szInt64SS.l0 k l t (i : Int)) z ∧ (0 ≤ z → (cellsN (l.drop i) : Int) ≤ t) := by
    intro d
    induction d with
    | zero =>
      intro i t hd h0 h1
      refine ⟨t, Kit.Ev.up ?_, fun _ => by rw [List.drop_eq_nil_of_le (by omega)]; simp only [cellsN]; omega⟩
      simp only [laws_szInt64SS.l0]
      exact Kit.Ev.neg (by omega) (Kit.Ev.const rfl)
    | succ d ih =>
      intro i t hd h0 h1
      have hi : i < l.length := by omega
      have hm : rd_L1 l (i : Int) = l[i] := by simp only [rd_L1, Int.toNat_natCast, List.getD_eq_getElem?_getD, List.getElem?_eq_getElem hi, Option.getD_some]
      have hz := szRow_eq (l := l[i]) h0 h1 (hr _ (List.getElem_mem hi))
      by_cases hc : t - ((l[i]).length : Int) < 0
      · rw [if_pos hc] at hz
        refine ⟨-1, Kit.Ev.up ?_, fun h => by omega⟩
        simp only [laws_szInt64SS.l0, hm]
        exact Kit.Ev.pos (by omega) (Kit.Ev.pos (by omega) (Kit.Ev.call hz (Kit.Ev.pos (by omega) (Kit.Ev.const rfl))))
      · rw [if_neg hc] at hz
        obtain ⟨z, H, hb⟩ := ih (i + 1) (t - ((l[i]).length : Int)) (by omega) (by omega) (by omega)
        refine ⟨z, Kit.Ev.up ?_, fun h => ?_⟩
        · simp only [laws_szInt64SS.l0, hm]
          refine Kit.Ev.pos (by omega) (Kit.Ev.pos (by omega) (Kit.Ev.call hz (Kit.Ev.neg hc ?_)))
          rw [w64n (n := l.length) (by omega) hn]
          exact H
        · have := hb h
          rw [List.drop_eq_getElem_cons hi]
          simp only [cellsN]; omega
  unfold laws_szInt64SS.f
  rw [Kit.w64 (by omega) (by omega)]
  by_cases hc : (1048576 : Int) - (l.length : Int) < 0
  · exact ⟨-1, Kit.Ev.pos hc (Kit.Ev.const rfl), fun h => by omega⟩
  · obtain ⟨z, H, hb⟩ := L l.length 0 (1048576 - (l.length : Int)) (by omega) (by omega) (by omega)
    refine ⟨z, Kit.Ev.neg hc H, fun h => ?_⟩
    have := hb h
    simp only [List.drop_zero] at this
    omega
/-- Several answers, and one number of rounds for all. -/
theorem evs_both {α β : Type} {g : Nat → Option α} {h : Nat → Option β} {r : α} {s : β} (a : Ev g r) (b : Ev h s) : ∃ K, ∀ k, K ≤ k → g k = some r ∧ h k = some s := by
  obtain ⟨K, a⟩ := a
  obtain ⟨K', b⟩ := b
  exact ⟨max K K', fun k hk => ⟨a k (by omega), b k (by omega)⟩⟩
def Late (p : Nat → Prop) : Prop := ∃ K, ∀ k, K ≤ k → p k
theorem Late.of {α : Type} {g : Nat → Option α} {r : α} (h : Ev g r) : Late (fun k => g k = some r) := h
theorem Late.and {p q : Nat → Prop} (a : Late p) (b : Late q) : Late (fun k => p k ∧ q k) := by
  obtain ⟨K, a⟩ := a
  obtain ⟨K', b⟩ := b
  exact ⟨max K K', fun k hk => ⟨a k (by omega), b k (by omega)⟩⟩
theorem Late.ex {p : Nat → Prop} (a : Late p) : ∃ k, p k := by
  obtain ⟨K, a⟩ := a
  exact ⟨K, a K (Nat.le_refl _)⟩
def cellsE : List S65 → Nat
  | [] => 0
  | x :: xs => x.f0.length + 1 + cellsE xs
def seqE (a : Int) : List S65 → List S65
  | [] => []
  | x :: xs => ⟨seqF (fun x => x) a x.f0.length, a + x.f0.length⟩ :: seqE (a + x.f0.length + 1) xs
theorem cellsE_le : ∀ {l : List S65}, (∀ x ∈ l, x.f0.length ≤ 1048576) → cellsE l ≤ 1048577 * l.length
  | [], _ => Nat.le_refl _
  | x :: l, h => by
    have := h x (by simp)
    have := cellsE_le (l := l) (fun y hy => h y (by simp [hy]))
    simp only [cellsE, List.length_cons]; omega
theorem Fine.cells {l : List S65} (h : Fine l) : cellsE l ≤ 1099512676352 + 1048576 := by
  have := cellsE_le h.2
  have := h.1
  omega
theorem getD_midE (pre rest : List S65) (x z : S65) : (pre ++ x :: rest).getD ((pre.length : Int)).toNat z = x := by
  rw [Int.toNat_natCast, List.getD_eq_getElem?_getD, List.getElem?_append_right (Nat.le_refl _)]
  simp
theorem markE_l0 : ∀ (rest pre : List S65) (a : Int), 0 ≤ a → a + cellsE rest ≤ 4611686018427387904 → pre.length + rest.length ≤ 4611686018427387904 → Ev (fun k => laws_markEntryS.l0 k (pre ++ rest) a (pre.length : Int)) (a + cellsE rest, pre ++ seqE a rest)
  | [], pre, a, h0, h1, h2 => by
    refine Kit.Ev.up ?_
    simp only [laws_markEntryS.l0]
    exact Kit.Ev.neg (by simp) (Kit.Ev.const (by simp [seqE, cellsE]))
  | x :: rest, pre, a, h0, h1, h2 => by
    simp only [List.length_cons, cellsE] at h1 h2
    refine Kit.Ev.up ?_
    simp only [laws_markEntryS.l0]
    rw [getD_midE]
    refine Kit.Ev.pos (by simp only [List.length_append, List.length_cons]; omega) (Kit.Ev.pos (by omega) (Kit.Ev.then (markInt64S_ev x.f0 a h0 (by omega)) ?_))
    simp only
    have el : wrap64 ((pre.length : Int) + 1) = ((pre ++ [(⟨seqF (fun x => x) a x.f0.length, a + x.f0.length⟩ : S65)]).length : Int) := by rw [Kit.w64 (by omega) (by omega)]; simp
    have es : (pre ++ x :: rest).set (pre.length : Int).toNat (⟨seqF (fun x => x) a x.f0.length, a + x.f0.length⟩ : S65) = (pre ++ [⟨seqF (fun x => x) a x.f0.length, a + x.f0.length⟩]) ++ rest := by simp
    rw [es, el, Kit.w64 (x := a + x.f0.length + 1) (by omega) (by omega)]
    refine (markE_l0 rest (pre ++ [⟨seqF (fun x => x) a x.f0.length, a + x.f0.length⟩]) (a + x.f0.length + 1) (by omega) (by omega) (by rw [List.length_append]; simp only [List.length_cons, List.length_nil]; omega)).eq ?_
    refine Prod.ext ?_ ?_
    · simp only [cellsE]; omega
    · simp only [seqE, List.append_assoc, List.cons_append, List.nil_append]
theorem markE_ev (l : List S65) (a : Int) (h0 : 0 ≤ a) (h1 : a + cellsE l ≤ 4611686018427387904) (h2 : l.length ≤ 4611686018427387904) : Ev (fun k => laws_markEntryS.f k l a) (a + cellsE l, seqE a l) := by
  unfold laws_markEntryS.f
  exact markE_l0 l [] a h0 h1 (by simp only [List.length_nil]; omega)
theorem heldE_l0 : ∀ (rest pre : List S65) (a : Int), 0 ≤ a → a + cellsE rest ≤ 4611686018427387904 → pre.length + rest.length ≤ 4611686018427387904 → Ev (fun k => laws_heldEntryS.l0 k (pre ++ seqE a rest) a (pre.length : Int)) (a + cellsE rest)
  | [], pre, a, h0, h1, h2 => by
    refine Kit.Ev.up ?_
    simp only [laws_heldEntryS.l0, seqE]
    exact Kit.Ev.neg (by simp) (Kit.Ev.const (by simp [cellsE]))
  | x :: rest, pre, a, h0, h1, h2 => by
    simp only [List.length_cons, cellsE] at h1 h2
    refine Kit.Ev.up ?_
    simp only [laws_heldEntryS.l0, seqE, rd_T65, getD_midE]
    refine Kit.Ev.pos (by simp only [List.length_append, List.length_cons]; omega) (Kit.Ev.pos (by omega) (Kit.Ev.then (heldInt64S_ev x.f0.length a h0 (by omega)) (Kit.Ev.neg (by omega) (Kit.Ev.pos rfl ?_))))
    have el : wrap64 ((pre.length : Int) + 1) = ((pre ++ [(⟨seqF (fun x => x) a x.f0.length, a + x.f0.length⟩ : S65)]).length : Int) := by rw [Kit.w64 (by omega) (by omega)]; simp
    have es : pre ++ (⟨seqF (fun x => x) a x.f0.length, a + x.f0.length⟩ : S65) :: seqE (a + x.f0.length + 1) rest = (pre ++ [⟨seqF (fun x => x) a x.f0.length, a + x.f0.length⟩]) ++ seqE (a + x.f0.length + 1) rest := by simp
    rw [es, el, Kit.w64 (x := a + x.f0.length + 1) (by omega) (by omega)]
    refine (heldE_l0 rest (pre ++ [⟨seqF (fun x => x) a x.f0.length, a + x.f0.length⟩]) (a + x.f0.length + 1) (by omega) (by omega) (by rw [List.length_append]; simp only [List.length_cons, List.length_nil]; omega)).eq ?_
    simp only [cellsE]; omega
theorem heldE_ev (l : List S65) (a : Int) (h0 : 0 ≤ a) (h1 : a + cellsE l ≤ 4611686018427387904) (h2 : l.length ≤ 4611686018427387904) : Ev (fun k => laws_heldEntryS.f k (seqE a l) a) (a + cellsE l) := by
  unfold laws_heldEntryS.f
  exact heldE_l0 l [] a h0 h1 (by simp only [List.length_nil]; omega)
theorem heldSet_ev (x : Int) (l : List S65) (a : Int) (h0 : 0 ≤ a) (h1 : a + cellsE l ≤ 4611686018427387904) (h2 : l.length ≤ 4611686018427387904) : Ev (fun k => laws_heldSetResult.f k x (seqE a l) a) (a + cellsE l) := by
  unfold laws_heldSetResult.f
  exact Kit.Ev.then (heldE_ev l a h0 h1 h2) (Kit.Ev.neg (by omega) (Kit.Ev.const rfl))
theorem markSet_ev (x : Int) (l : List S65) (a : Int) (h0 : 0 ≤ a) (h1 : a + cellsE l ≤ 4611686018427387904) (h2 : l.length ≤ 4611686018427387904) : Ev (fun k => laws_markSetResult.f k x l a) (a + cellsE l, seqE a l) := markE_ev l a h0 h1 h2
theorem eqEntryS_l0 (xs : List S65) (hn : xs.length ≤ 9223372036854775807) (hr : ∀ x ∈ xs, x.f0.length ≤ 9223372036854775807) : ∀ (d i : Nat), i + d = xs.length → Ev (fun k => laws_eqEntryS.l0 k xs xs (i : Int)) true := by
  intro d
  induction d with
  | zero =>
    intro i hd
    refine Kit.Ev.up ?_
    simp only [laws_eqEntryS.l0]
    exact Kit.Ev.neg (by omega) (Kit.Ev.const rfl)
  | succ d ih =>
    intro i hd
    refine Kit.Ev.up ?_
    simp only [laws_eqEntryS.l0, laws_eqEntry.f]
    refine Kit.Ev.pos (by omega) (Kit.Ev.pos (by omega) (Kit.Ev.pos (by omega) ?_))
    have hm := rdE_mem (xs := xs) (i := i) (by omega)
    refine Kit.Ev.then (a := true) (Kit.Ev.then (eqInt64S_refl _ (hr _ hm)) (Kit.Ev.pos rfl (Kit.Ev.pos (by trivial) (Kit.Ev.const rfl)))) ?_
    refine Kit.Ev.pos rfl ?_
    rw [w64n (n := xs.length) (by omega) hn]
    exact ih (i + 1) (by omega)
theorem eqEntryS_refl (xs : List S65) (hn : xs.length ≤ 9223372036854775807) (hr : ∀ x ∈ xs, x.f0.length ≤ 9223372036854775807) : Ev (fun k => laws_eqEntryS.f k xs xs) true := by
  unfold laws_eqEntryS.f
  exact Kit.Ev.pos rfl (eqEntryS_l0 xs hn hr xs.length 0 (by omega))
theorem eqSetR_refl (x : Int) (l : List S65) (hx : Fine l) : Ev (fun k => laws_eqSetResult.f k x l x l) true := by
  unfold laws_eqSetResult.f
  exact Kit.Ev.pos rfl (Kit.Ev.then (eqEntryS_refl l hx.n hx.r) (Kit.Ev.pos rfl (Kit.Ev.const rfl)))
theorem clone_eq (l : List Int) (h : l.length ≤ 1048576) : slices_Clone_int64_int64.f l = some l := by
  unfold slices_Clone_int64_int64.f
  rw [if_pos (by omega)]
theorem l2Row_eq (l : List Int) (h : l.length ≤ 1048576) : spec_l2Row.f l = some l := by
  unfold spec_l2Row.f
  simp only [Option.bind_some, List.nil_append]
  rw [if_pos (by simp only [List.length_nil]; omega)]
def hasK (keys : List (List Int)) (r : List Int) : Bool := keys.any (fun q => decide (q = r))
def onlyF (w : Int) (keys : List (List Int)) (l : List S65) : Int × List S65 :=
  if l5AskedF w l = 0 then (if 200 < keys.length then (2, []) else (0, l.filter (fun x => hasK keys (x.f0.take w.toNat)))) else (l5AskedF w l, [])
theorem onlyF_fine (w : Int) (keys : List (List Int)) {l : List S65} (hx : Fine l) : Fine (onlyF w keys l).2 := by
  have nil : Fine ([] : List S65) := ⟨by simp, by simp⟩
  unfold onlyF
  repeat' split
  · exact nil
  · exact ⟨Nat.le_trans (List.length_filter_le _ _) hx.1, fun x hx' => hx.2 x (List.mem_filter.mp hx').1⟩
  · exact nil
theorem cmpR_zero : ∀ xs ys : List Int, cmpR xs ys = 0 ↔ xs = ys
  | [], [] => by simp [cmpR]
  | [], _ :: _ => by simp [cmpR]
  | _ :: _, [] => by simp [cmpR]
  | a :: xs, b :: ys => by
    simp only [cmpR]
    by_cases h1 : a < b
    · rw [if_pos h1]; simp; omega
    · by_cases h2 : b < a
      · rw [if_neg h1, if_pos h2]; simp; omega
      · rw [if_neg h1, if_neg h2, cmpR_zero xs ys]
        have : a = b := by omega
        simp [this]
theorem cmpR_in : ∀ xs ys : List Int, cmpR xs ys = -1 ∨ cmpR xs ys = 0 ∨ cmpR xs ys = 1
  | [], [] => by simp [cmpR]
  | [], _ :: _ => by simp [cmpR]
  | _ :: _, [] => by simp [cmpR]
  | a :: xs, b :: ys => by
    simp only [cmpR]
    by_cases h1 : a < b
    · rw [if_pos h1]; simp
    · by_cases h2 : b < a
      · rw [if_neg h1, if_pos h2]; simp
      · rw [if_neg h1, if_neg h2]; exact cmpR_in xs ys
theorem rdL_at {xs : List (List Int)} {i : Nat} (h : i < xs.length) : rd_L1 xs (i : Int) = xs[i] := by simp [rd_L1, h]
theorem specHas_l0 (keys : List (List Int)) (r : List Int) (hk : keys.length ≤ 1048576) (hkr : ∀ q ∈ keys, q.length ≤ 1048576) : ∀ (d i : Nat), i + d = keys.length → Ev (fun k => spec_l5Has.l0 k keys r (i : Int)) (hasK (keys.drop i) r) := by
  intro d
  induction d with
  | zero =>
    intro i hd
    refine Kit.Ev.up ?_
    simp only [spec_l5Has.l0]
    refine Kit.Ev.neg (by omega) (Kit.Ev.const ?_)
    rw [List.drop_eq_nil_of_le (by omega)]; rfl
  | succ d ih =>
    intro i hd
    have hi : i < keys.length := by omega
    have hm := hkr _ (List.getElem_mem hi)
    refine Kit.Ev.up ?_
    simp only [spec_l5Has.l0, rdL_at hi]
    rw [List.drop_eq_getElem_cons hi, w64n (n := keys.length) (by omega) (by omega)]
    refine Kit.Ev.pos (by omega) (Kit.Ev.pos (by omega) (Kit.Ev.then (specCmp_ev _ r (by omega)) ?_))
    unfold hasK
    rw [List.any_cons]
    by_cases c : keys[i] = r
    · rw [decide_eq_true c, Bool.true_or]
      exact Kit.Ev.pos ((cmpR_zero _ _).mpr c) (Kit.Ev.const rfl)
    · rw [decide_eq_false c, Bool.false_or]
      exact Kit.Ev.neg (fun e => c ((cmpR_zero _ _).mp e)) (ih (i + 1) (by omega))
theorem specHas_ev (keys : List (List Int)) (r : List Int) (hk : keys.length ≤ 1048576) (hkr : ∀ q ∈ keys, q.length ≤ 1048576) : Ev (fun k => spec_l5Has.f k keys r) (hasK keys r) := by
  unfold spec_l5Has.f
  exact specHas_l0 keys r hk hkr keys.length 0 (by omega)
theorem specOnly_l0 (w : Int) (hw : 0 ≤ w) (keys : List (List Int)) (hk : keys.length ≤ 1048576) (hkr : ∀ q ∈ keys, q.length ≤ 1048576) {xs : List S65} (hx : Fine xs) (hlong : longB w xs = true) : ∀ (d i : Nat) (out : List S65), i + d = xs.length → out.length ≤ i → Ev (fun k => spec_OnlyKeys.l0 k xs keys w (i : Int) 0 out) (0, out ++ (xs.drop i).filter (fun x => hasK keys (x.f0.take w.toNat))) := by
  have hl := hx.1
  intro d
  induction d with
  | zero =>
    intro i out hd _
    refine Kit.Ev.up ?_
    simp only [spec_OnlyKeys.l0]
    refine Kit.Ev.neg (by omega) (Kit.Ev.const ?_)
    rw [List.drop_eq_nil_of_le (by omega)]; simp
  | succ d ih =>
    intro i out hd ho
    have hi : i < xs.length := by omega
    have hm := hx.2 _ (rdE_mem (xs := xs) (i := i) hi)
    have hlo := longB_at hlong (i := i) hi
    refine Kit.Ev.up ?_
    simp only [spec_OnlyKeys.l0]
    rw [rdE_drop (xs := xs) (i := i) hi, w64n (n := xs.length) (by omega) hx.n, List.filter_cons]
    refine Kit.Ev.pos (by omega) (Kit.Ev.pos (by omega) (Kit.Ev.pos hw (Kit.Ev.pos hlo (Kit.Ev.then (specHas_ev keys _ hk hkr) ?_))))
    by_cases h : hasK keys ((rd_T65 xs (i : Int)).f0.take w.toNat) = true
    · rw [if_pos h]
      refine Kit.Ev.pos h (Kit.Ev.call (l2Row_eq _ hm) (Kit.Ev.pos (by omega) ?_))
      refine (ih (i + 1) (out ++ [rd_T65 xs (i : Int)]) (by omega) (by rw [List.length_append]; simp only [List.length_cons, List.length_nil]; omega)).eq ?_
      rw [List.append_assoc]; rfl
    · rw [if_neg h]
      exact Kit.Ev.neg h (ih (i + 1) out (by omega) (by omega))
theorem specOnly_ev (w : Int) (keys : List (List Int)) (hk : keys.length ≤ 1048576) (hkr : ∀ q ∈ keys, q.length ≤ 1048576) {l : List S65} (hx : Fine l) : Ev (fun k => spec_OnlyKeys.f k l keys w) (onlyF w keys l) := by
  unfold spec_OnlyKeys.f onlyF
  refine Kit.Ev.then (specAsked5_ev w hx) (Kit.Ev.ite2 (fun h => ?_) (fun _ => Kit.Ev.const rfl))
  obtain ⟨h1, _, h3⟩ := l5Asked_in h
  by_cases c : 200 < keys.length
  · rw [if_pos c]; exact Kit.Ev.pos (by omega) (Kit.Ev.const rfl)
  · rw [if_neg c]
    exact Kit.Ev.neg (by omega) ((specOnly_l0 w h1.1 keys hk hkr hx h3 l.length 0 [] (by omega) (by simp)).eq (by simp))
theorem implSet_l0 (xs : List S65) (hx : Fine xs) : ∀ (d i : Nat), i + d = xs.length → Ev (fun k => impl_SetFault.l0 k xs xs (xs.length : Int) (i : Int)) (setG (prevE xs i) (xs.drop i)) := by
  have hn := hx.n
  intro d
  induction d with
  | zero =>
    intro i hd
    refine Kit.Ev.up ?_
    simp only [impl_SetFault.l0]
    refine Kit.Ev.neg (by omega) (Kit.Ev.const ?_)
    rw [List.drop_eq_nil_of_le (by omega)]; simp [setG]
  | succ d ih =>
    intro i hd
    have hm := hx.r _ (rdE_mem (xs := xs) (i := i) (by omega))
    have hj : ∀ b : Bool, b = ! decide (isW (rd_T65 xs (i : Int)).f1 = true ∧ (rd_T65 xs (i : Int)).f1 ≠ 0) → rowF (rd_T65 xs (i : Int)).f0 = 0 → Ev (fun k => impl_SetFault.j1 k xs (i : Int) xs (xs.length : Int) (i : Int) b (rd_T65 xs (i : Int)).f0 (rd_T65 xs (i : Int)).f1) (setG (prevE xs i) (xs.drop i)) := by
      intro b hb hrow
      rw [rdE_drop (xs := xs) (i := i) (by omega)]
      simp only [setG]
      rw [if_pos hrow]
      refine Kit.Ev.up ?_
      simp only [impl_SetFault.j1]
      by_cases hw : isW (rd_T65 xs (i : Int)).f1 = true ∧ (rd_T65 xs (i : Int)).f1 ≠ 0
      · rw [if_pos hw]
        refine Kit.Ev.neg (by rw [hb]; simp [hw]) ?_
        by_cases h0 : i = 0
        · subst h0
          refine Kit.Ev.neg (by omega) ?_
          rw [w64n (n := xs.length) (by omega) hn]
          have := ih 1 (by omega)
          rw [show prevE xs 1 = some (rd_T65 xs ((0 : Nat) : Int)).f0 from prevE_succ xs 0] at this
          simpa [prevE] using this
        · refine Kit.Ev.pos (by omega) ?_
          rw [w64p (by omega) (by omega)]
          have hp := hx.r _ (rdE_mem (xs := xs) (i := i - 1) (by omega))
          refine Kit.Ev.pos (by omega) (Kit.Ev.pos (by omega) ?_)
          refine Kit.Ev.then (implCmp_ev _ _ hp) ?_
          rw [w64n (n := xs.length) (by omega) hn, show prevE xs i = some (rd_T65 xs ((i - 1 : Nat) : Int)).f0 from by simp [prevE, h0]]
          dsimp only
          refine Kit.Ev.ite (fun hc => Kit.Ev.const ?_) (fun hc => ?_)
          · rw [if_pos (by omega)]
          · rw [if_neg (by omega), ← prevE_succ]
            exact ih (i + 1) (by omega)
      · rw [if_neg hw]
        exact Kit.Ev.pos (by rw [hb]; simp only [hw, decide_false]; rfl) (Kit.Ev.const rfl)
    refine Kit.Ev.up ?_
    simp only [impl_SetFault.l0]
    refine Kit.Ev.pos (by omega) (Kit.Ev.pos (by omega) (Kit.Ev.pos (by omega) (Kit.Ev.then (implRow_ev _ hm) ?_)))
    refine Kit.Ev.ite (fun hrow => ?_) (fun hrow => Kit.Ev.const ?_)
    · rw [implWeight_eq]
      simp only [Option.bind_some]
      refine Kit.Ev.ite (fun hw => hj _ ?_ hrow) (fun hw => hj _ ?_ hrow)
      · by_cases hz : (rd_T65 xs (i : Int)).f1 = 0 <;> simp [hw, hz]
      · simp [hw]
    · rw [rdE_drop (xs := xs) (i := i) (by omega)]
      simp only [setG]
      rw [if_neg hrow]
theorem implSet_ev (xs : List S65) (hx : Fine xs) : Ev (fun k => impl_SetFault.f k xs) (setF xs) := by
  unfold impl_SetFault.f setF
  refine Kit.Ev.ite (fun h => Kit.Ev.const ?_) (fun h => ?_)
  · rw [if_pos (by omega)]
  · rw [if_neg (by omega)]
    exact (implSet_l0 xs hx xs.length 0 (by omega)).eq (by simp [prevE])
theorem indexR_ev (B : List Int → Bool) (xs : List (List Int)) (hn : xs.length ≤ 1048576) (p : Nat → List Int → Option Bool) (hp : ∀ q ∈ xs, Ev (fun k => p k q) (B q)) : ∀ (d i : Nat), i + d = xs.length → ∃ r : Int, Ev (fun k => indexR.l0 p k xs (xs.length : Int) (i : Int)) r ∧ decide (r ≥ 0) = (xs.drop i).any B := by
  intro d
  induction d with
  | zero =>
    intro i hd
    refine ⟨-1, Kit.Ev.up ?_, ?_⟩
    · simp only [indexR.l0]
      exact Kit.Ev.neg (by omega) (Kit.Ev.const rfl)
    · rw [List.drop_eq_nil_of_le (by omega)]; rfl
  | succ d ih =>
    intro i hd
    have hi : i < xs.length := by omega
    have hq := hp _ (List.getElem_mem hi)
    by_cases h : B xs[i] = true
    · refine ⟨(i : Int), Kit.Ev.up ?_, ?_⟩
      · simp only [indexR.l0, rdL_at hi]
        rw [h] at hq
        exact Kit.Ev.pos (by omega) (Kit.Ev.pos (by omega) (Kit.Ev.pos (by omega) (Kit.Ev.then hq (Kit.Ev.pos rfl (Kit.Ev.const rfl)))))
      · rw [List.drop_eq_getElem_cons hi, List.any_cons, h, Bool.true_or]
        exact decide_eq_true (by omega)
    · have h' : B xs[i] = false := by simpa using h
      rw [h'] at hq
      obtain ⟨r, e, h2⟩ := ih (i + 1) (by omega)
      refine ⟨r, Kit.Ev.up ?_, ?_⟩
      · simp only [indexR.l0, rdL_at hi]
        rw [w64n (n := xs.length) (by omega) (by omega)]
        exact Kit.Ev.pos (by omega) (Kit.Ev.pos (by omega) (Kit.Ev.pos (by omega) (Kit.Ev.then hq (Kit.Ev.neg (by decide) e))))
      · rw [List.drop_eq_getElem_cons hi, List.any_cons, h', Bool.false_or]; exact h2
theorem keysHas_ev (w : Int) (hw : 0 ≤ w) (keys : List (List Int)) (row : List Int) (x : Int) (hlo : w ≤ (row.length : Int)) (hk : keys.length ≤ 1048576) (hkr : ∀ q ∈ keys, q.length ≤ 1048576) : Ev (fun k => keysHas.f k keys row x w) (hasK keys (row.take w.toNat)) := by
  obtain ⟨r, hr1, hr2⟩ := indexR_ev (fun q => decide (q = row.take w.toNat)) keys hk (keysHas.p row w) (fun q hq => by
    unfold keysHas.p
    have := hkr q hq
    exact Kit.Ev.pos hw (Kit.Ev.pos hlo (slicesEq_ev _ _ (by omega)))) keys.length 0 (by omega)
  unfold keysHas.f containsR.f indexR.f
  refine Kit.Ev.then hr1 (Kit.Ev.const ?_)
  rw [hr2, List.drop_zero]; rfl
theorem implOnly_l0 (w : Int) (hw : 0 ≤ w) (keys : List (List Int)) (hk : keys.length ≤ 1048576) (hkr : ∀ q ∈ keys, q.length ≤ 1048576) {xs : List S65} (hx : Fine xs) (hlong : longB w xs = true) : ∀ (d i : Nat) (out : List S65), i + d = xs.length → out.length ≤ i → Ev (fun k => impl_OnlyKeys.l0 k keys w out xs (xs.length : Int) (i : Int)) (0, out ++ (xs.drop i).filter (fun x => hasK keys (x.f0.take w.toNat))) := by
  have hl := hx.1
  intro d
  induction d with
  | zero =>
    intro i out hd _
    refine Kit.Ev.up ?_
    simp only [impl_OnlyKeys.l0]
    refine Kit.Ev.neg (by omega) (Kit.Ev.const ?_)
    rw [List.drop_eq_nil_of_le (by omega)]; simp
  | succ d ih =>
    intro i out hd ho
    have hi : i < xs.length := by omega
    have hm := hx.2 _ (rdE_mem (xs := xs) (i := i) hi)
    have hlo := longB_at hlong (i := i) hi
    refine Kit.Ev.up ?_
    simp only [impl_OnlyKeys.l0]
    rw [rdE_drop (xs := xs) (i := i) hi, w64n (n := xs.length) (by omega) hx.n, List.filter_cons]
    refine Kit.Ev.pos (by omega) (Kit.Ev.pos (by omega) (Kit.Ev.pos (by omega) (Kit.Ev.then (keysHas_ev w hw keys _ _ hlo hk hkr) ?_)))
    by_cases h : hasK keys ((rd_T65 xs (i : Int)).f0.take w.toNat) = true
    · rw [if_pos h]
      refine Kit.Ev.pos h (Kit.Ev.call (clone_eq _ hm) (Kit.Ev.pos (by omega) ?_))
      refine (ih (i + 1) (out ++ [rd_T65 xs (i : Int)]) (by omega) (by rw [List.length_append]; simp only [List.length_cons, List.length_nil]; omega)).eq ?_
      rw [List.append_assoc]; rfl
    · rw [if_neg h]
      exact Kit.Ev.neg h (ih (i + 1) out (by omega) (by omega))
theorem implOnly_ev (w : Int) (keys : List (List Int)) (hk : keys.length ≤ 1048576) (hkr : ∀ q ∈ keys, q.length ≤ 1048576) {l : List S65} (hx : Fine l) : Ev (fun k => impl_OnlyKeys.f k l keys w) (onlyF w keys l) := by
  unfold impl_OnlyKeys.f
  by_cases c : 0 ≤ w ∧ w ≤ 4
  · refine Kit.Ev.call (implIn_eq _ _ _) (Kit.Ev.pos (decide_eq_true c) (Kit.Ev.then (implSet_ev l hx) ?_))
    by_cases h2 : setF l = 0
    · refine Kit.Ev.pos h2 (Kit.Ev.then (areLong_ev w l hx.1) ?_)
      by_cases h3 : longB w l = true
      · have e : l5AskedF w l = 0 := by unfold l5AskedF; rw [if_pos c, if_pos h2, if_pos h3]
        refine Kit.Ev.pos h3 ?_
        unfold onlyF
        rw [if_pos e]
        by_cases c2 : 200 < keys.length
        · rw [if_pos c2]; exact Kit.Ev.pos (by omega) (Kit.Ev.const rfl)
        · rw [if_neg c2]
          exact Kit.Ev.neg (by omega) ((implOnly_l0 w c.1 keys hk hkr hx h3 l.length 0 [] (by omega) (by simp)).eq (by simp))
      · have e : l5AskedF w l = 1 := by unfold l5AskedF; rw [if_pos c, if_pos h2, if_neg h3]
        have e2 : onlyF w keys l = (1, []) := by unfold onlyF; rw [e]; rfl
        rw [e2]
        exact Kit.Ev.neg h3 (Kit.Ev.const rfl)
    · have e : l5AskedF w l = setF l := by unfold l5AskedF; rw [if_pos c, if_neg h2]
      have e2 : onlyF w keys l = (setF l, []) := by unfold onlyF; rw [e, if_neg h2]
      rw [e2]
      exact Kit.Ev.neg h2 (Kit.Ev.const rfl)
  · have e : l5AskedF w l = 3 := by unfold l5AskedF; rw [if_neg c]
    have e2 : onlyF w keys l = (3, []) := by unfold onlyF; rw [e]; rfl
    rw [e2]
    exact Kit.Ev.call (implIn_eq _ _ _) (Kit.Ev.neg (by simpa using c) (Kit.Ev.const rfl))
theorem szSS_from (l : List (List Int)) (s : Int) (hs0 : 0 ≤ s) (hs1 : s ≤ 1048576) (hn : l.length ≤ 9223372036854775807) (hr : ∀ r ∈ l, r.length ≤ 9223372036854775807) : ∃ z, Ev (fun k => laws_szInt64SS.f k l s) z ∧ (0 ≤ z → l.length ≤ 1048576 ∧ cellsN l ≤ 1048576) := by
  have L : ∀ (d i : Nat) (t : Int), i + d = l.length → 0 ≤ t → t ≤ 1048576 → ∃ z, Ev (fun k => laws_szInt64SS.l0 k l t (i : Int)) z ∧ (0 ≤ z → (cellsN (l.drop i) : Int) ≤ t) := by
    intro d
    induction d with
    | zero =>
      intro i t hd h0 h1
      refine ⟨t, Kit.Ev.up ?_, fun _ => by rw [List.drop_eq_nil_of_le (by omega)]; simp only [cellsN]; omega⟩
      simp only [laws_szInt64SS.l0]
      exact Kit.Ev.neg (by omega) (Kit.Ev.const rfl)
    | succ d ih =>
      intro i t hd h0 h1
      have hi : i < l.length := by omega
      have hm : rd_L1 l (i : Int) = l[i] := by simp only [rd_L1, Int.toNat_natCast, List.getD_eq_getElem?_getD, List.getElem?_eq_getElem hi, Option.getD_some]
      have hz := szRow_eq (l := l[i]) h0 h1 (hr _ (List.getElem_mem hi))
      by_cases hc : t - ((l[i]).length : Int) < 0
      · rw [if_pos hc] at hz
        refine ⟨-1, Kit.Ev.up ?_, fun h => by omega⟩
        simp only [laws_szInt64SS.l0, hm]
        exact Kit.Ev.pos (by omega) (Kit.Ev.pos (by omega) (Kit.Ev.call hz (Kit.Ev.pos (by omega) (Kit.Ev.const rfl))))
      · rw [if_neg hc] at hz
        obtain ⟨z, H, hb⟩ := ih (i + 1) (t - ((l[i]).length : Int)) (by omega) (by omega) (by omega)
        refine ⟨z, Kit.Ev.up ?_, fun h => ?_⟩
        · simp only [laws_szInt64SS.l0, hm]
          refine Kit.Ev.pos (by omega) (Kit.Ev.pos (by omega) (Kit.Ev.call hz (Kit.Ev.neg hc ?_)))
          rw [w64n (n := l.length) (by omega) hn]
          exact H
        · have := hb h
          rw [List.drop_eq_getElem_cons hi]
          simp only [cellsN]; omega
  unfold laws_szInt64SS.f
  rw [Kit.w64 (by omega) (by omega)]
  by_cases hc : s - (l.length : Int) < 0
  · exact ⟨-1, Kit.Ev.pos hc (Kit.Ev.const rfl), fun h => by omega⟩
  · obtain ⟨z, H, hb⟩ := L l.length 0 (s - (l.length : Int)) (by omega) (by omega) (by omega)
    refine ⟨z, Kit.Ev.neg hc H, fun h => ?_⟩
    have := hb h
    simp only [List.drop_zero] at this
    exact ⟨by omega, by omega⟩
theorem rdLE_at {xs : List S63} {i : Nat} (h : i < xs.length) : rd_T63 xs (i : Int) = xs[i] := by simp [rd_T63, h]
theorem rdLE_drop {xs : List S63} {i : Nat} (h : i < xs.length) : xs.drop i = rd_T63 xs (i : Int) :: xs.drop (i + 1) := by
  rw [rdLE_at h]; exact List.drop_eq_getElem_cons h
theorem rdLE_mem {xs : List S63} {i : Nat} (h : i < xs.length) : rd_T63 xs (i : Int) ∈ xs := by
  rw [rdLE_at h]; exact List.getElem_mem h
def conv (x : S63) : S65 := ⟨x.f0, x.f1⟩
def szGo : Int → List S63 → Int
  | t, [] => t
  | t, x :: xs => if t - (x.f0.length : Int) < 0 then -1 else szGo (t - (x.f0.length : Int)) xs
def szE (t : Int) (l : List S63) : Int := if t - (l.length : Int) < 0 then -1 else szGo (t - (l.length : Int)) l
theorem szGo_le : ∀ (l : List S63) (t : Int), 0 ≤ szGo t l → szGo t l ≤ t ∧ ∀ x ∈ l, (x.f0.length : Int) ≤ t
  | [], t, h => ⟨Int.le_refl _, by simp⟩
  | x :: xs, t, h => by
    unfold szGo at h ⊢
    by_cases hc : t - (x.f0.length : Int) < 0
    · rw [if_pos hc] at h; omega
    · rw [if_neg hc] at h ⊢
      have ih := szGo_le xs _ h
      refine ⟨by omega, fun y hy => ?_⟩
      rcases List.mem_cons.1 hy with rfl | hy
      · omega
      · have := ih.2 y hy; omega
theorem szE_le {t : Int} {l : List S63} (h : 0 ≤ szE t l) : (l.length : Int) ≤ t ∧ szE t l ≤ t ∧ ∀ x ∈ l, (x.f0.length : Int) ≤ t := by
  unfold szE at h ⊢
  by_cases hc : t - (l.length : Int) < 0
  · rw [if_pos hc] at h; omega
  · rw [if_neg hc] at h ⊢
    have := szGo_le l _ h
    refine ⟨by omega, by omega, fun x hx => ?_⟩
    have := this.2 x hx
    omega
theorem szInt_eq {n : Nat} {l : List Int} {t : Int} (h0 : 0 ≤ t) (h1 : t ≤ 1048576) (hn : l.length = n) (hl : n ≤ 9223372036854775807) : laws_szInt64S.f l t = some (if t - (n : Int) < 0 then -1 else t - (n : Int)) := by
  unfold laws_szInt64S.f
  rw [hn, Kit.w64 (by omega) (by omega)]
  by_cases h : t - (n : Int) < 0
  · rw [if_pos h, if_pos h]
  · rw [if_neg h, if_neg h]
theorem szEntry_eq {l : List Int} {w t : Int} (h0 : 0 ≤ t) (h1 : t ≤ 1048576) (hl : l.length ≤ 9223372036854775807) : laws_szEntry.f l w t = some (if t - (l.length : Int) < 0 then -1 else t - (l.length : Int)) := by
  unfold laws_szEntry.f
  rw [szInt_eq h0 h1 rfl hl]
  simp only [Option.bind_some]
  by_cases h : t - (l.length : Int) < 0
  · rw [if_pos h, if_pos (by omega)]
  · rw [if_neg h, if_neg h]
theorem szEntryS_l0 (xs : List S63) (hn : xs.length ≤ 9223372036854775807) (hr : ∀ x ∈ xs, x.f0.length ≤ 9223372036854775807) : ∀ (d i : Nat) (t : Int), i + d = xs.length → 0 ≤ t → t ≤ 1048576 → Ev (fun k => laws_szEntryS.l0 k xs t (i : Int)) (szGo t (xs.drop i)) := by
  intro d
  induction d with
  | zero =>
    intro i t hd h0 h1
    refine Kit.Ev.up ?_
    simp only [laws_szEntryS.l0]
    refine Kit.Ev.neg (by omega) (Kit.Ev.const ?_)
    rw [List.drop_eq_nil_of_le (by omega)]; rfl
  | succ d ih =>
    intro i t hd h0 h1
    refine Kit.Ev.up ?_
    simp only [laws_szEntryS.l0]
    refine Kit.Ev.pos (by omega) (Kit.Ev.pos (by omega) ?_)
    rw [rdLE_drop (xs := xs) (i := i) (by omega), w64n (n := xs.length) (by omega) hn, szEntry_eq h0 h1 (hr _ (rdLE_mem (by omega)))]
    simp only [Option.bind_some, szGo]
    by_cases h : t - ((rd_T63 xs (i : Int)).f0.length : Int) < 0
    · rw [if_pos h]; exact Kit.Ev.pos (by omega) (Kit.Ev.const (by rw [if_pos h]))
    · rw [if_neg h, if_neg h]
      exact Kit.Ev.neg h (ih (i + 1) _ (by omega) (by omega) (by omega))
theorem szEntryS_ev (xs : List S63) (hn : xs.length ≤ 9223372036854775807) (hr : ∀ x ∈ xs, x.f0.length ≤ 9223372036854775807) {t : Int} (h0 : 0 ≤ t) (h1 : t ≤ 1048576) : Ev (fun k => laws_szEntryS.f k xs t) (szE t xs) := by
  unfold laws_szEntryS.f szE
  rw [Kit.w64 (by omega) (by omega)]
  by_cases h : t - (xs.length : Int) < 0
  · rw [if_pos h]; exact Kit.Ev.pos h (Kit.Ev.const rfl)
  · rw [if_neg h]; exact Kit.Ev.neg h (szEntryS_l0 xs hn hr xs.length 0 _ (by omega) (by omega) (by omega))
theorem toEntryS_l0 (xs : List S63) (hn : xs.length ≤ 9223372036854775807) (hr : ∀ x ∈ xs, x.f0.length ≤ 1048576) : ∀ (d i : Nat) (ys : List S65), i + d = xs.length → ys.length = xs.length → (∀ j, j < i → ys[j]? = (xs.map conv)[j]?) → Ev (fun k => laws_toEntryS.l0 k xs ys (i : Int)) (xs.map conv) := by
  intro d
  induction d with
  | zero =>
    intro i ys hd hl he
    refine Kit.Ev.up ?_
    simp only [laws_toEntryS.l0]
    refine Kit.Ev.neg (by omega) (Kit.Ev.const ?_)
    congr 1
    apply List.ext_getElem?
    intro j
    by_cases hj : j < i
    · exact he j hj
    · rw [List.getElem?_eq_none (by omega), List.getElem?_eq_none (by rw [List.length_map]; omega)]
  | succ d ih =>
    intro i ys hd hl he
    refine Kit.Ev.up ?_
    simp only [laws_toEntryS.l0, laws_toEntry.f]
    refine Kit.Ev.pos (by omega) (Kit.Ev.pos (by omega) ?_)
    have hm := rdLE_mem (xs := xs) (i := i) (by omega)
    refine Kit.Ev.then (a := ((rd_T63 xs (i : Int)).f0, (rd_T63 xs (i : Int)).f1)) (Kit.Ev.then (toInt64S_ev _ (hr _ hm)) (Kit.Ev.const rfl)) ?_
    refine Kit.Ev.pos (by omega) ?_
    rw [w64n (n := xs.length) (by omega) hn, Int.toNat_natCast]
    refine ih (i + 1) _ (by omega) (by simpa using hl) (fun j hj => ?_)
    rw [List.getElem?_set]
    by_cases e : i = j
    · subst e
      rw [if_pos rfl, if_pos (by omega), List.getElem?_map, List.getElem?_eq_getElem (by omega), rdLE_at (by omega)]
      rfl
    · rw [if_neg e]
      exact he j (by omega)
theorem toEntryS_ev (xs : List S63) (hn : xs.length ≤ 1048576) (hr : ∀ x ∈ xs, x.f0.length ≤ 1048576) : Ev (fun k => laws_toEntryS.f k xs) (xs.map conv) := by
  unfold laws_toEntryS.f
  refine Kit.Ev.pos (by omega) (Kit.Ev.pos (by omega) ?_)
  exact toEntryS_l0 xs (by omega) hr xs.length 0 _ (by omega) (by simp) (fun j hj => by omega)
/-- What a law over one list of entries begins with: too much, or what is laid is as it came in. -/
theorem input_of {l : List S63} (hl : (fun l : List S63 => l.length ≤ maxLen ∧ ∀ y ∈ l, (fun x : S63 => (fun l : List Int => l.length ≤ maxLen ∧ ∀ y ∈ l, (fun x : Int => (Lit.int .i64 x).wf = true) y) x.f0 ∧ (fun x : Int => (Lit.int .i64 x).wf = true) x.f1) y) l) {t : Int} (h0 : 0 ≤ t) (h1 : t ≤ 1048576) :
    Ev (fun k => laws_szEntryS.f k l t) (szE t l) ∧ (¬ szE t l < 0 → szE t l ≤ 1048576 ∧ 0 ≤ szE t l ∧ Fine (l.map conv) ∧ Ev (fun k => laws_toEntryS.f k l) (l.map conv)) := by
  have hm : ∀ n : Nat, n ≤ maxLen → n ≤ 9223372036854775807 := fun n h => by simp only [maxLen] at h; omega
  refine ⟨szEntryS_ev l (hm _ hl.1) (fun x hx => hm _ (hl.2 x hx).1.1) h0 h1, fun h => ?_⟩
  have hb := szE_le (t := t) (l := l) (by omega)
  have hr : ∀ x ∈ l, x.f0.length ≤ 1048576 := fun x hx => by have := hb.2.2 x hx; omega
  refine ⟨by omega, by omega, ⟨by rw [List.length_map]; omega, fun x hx => ?_⟩, toEntryS_ev l (by omega) hr⟩
  obtain ⟨y, hy, rfl⟩ := List.mem_map.1 hx
  exact hr y hy
theorem FnExactOnlyKeys : laws_FnExactOnlyKeys.Pure := by
  intro l keys w hl _ hks _ _
  unfold laws_FnExactOnlyKeys.ok
  have hM : ∀ n : Nat, n ≤ maxLen → n ≤ 9223372036854775807 := fun n h => by simp only [maxLen] at h; omega
  obtain ⟨hz, hin⟩ := input_of hl (t := 1048576) (by omega) (by omega)
  by_cases hc : szE 1048576 l < 0
  · obtain ⟨k, e⟩ := (Late.of hz).ex
    exact ⟨k, .inl ⟨_, e, hc⟩⟩
  obtain ⟨h1, h0, hx, ht⟩ := hin hc
  obtain ⟨z, hz2, hb⟩ := szSS_from keys (szE 1048576 l) h0 h1 (hM _ hks.1) (fun r h => hM _ (hks.2 r h).1)
  by_cases hc2 : z < 0
  · obtain ⟨k, e, e2⟩ := ((Late.of hz).and (Late.of hz2)).ex
    exact ⟨k, .inr (.inl ⟨_, _, e, e2, by omega, hc2⟩)⟩
  obtain ⟨hn, hcl⟩ := hb (by omega)
  have hkr : ∀ r ∈ keys, r.length ≤ 1048576 := fun r h => by have := cellsN_le keys r h; omega
  have hr := onlyF_fine w keys hx
  have c1 := hx.cells
  have c2 := hr.cells
  have n1 := hx.1
  have n2 := hr.1
  obtain ⟨k, e0, e1, e2, e3, e4, e5, e6, e7, e8, e9, e10, e11, e12⟩ := ((Late.of hz).and ((Late.of hz2).and ((Late.of ht).and ((Late.of (toSS_ev keys hn hkr)).and ((Late.of (specOnly_ev w keys hn hkr hx)).and ((Late.of (implOnly_ev w keys hn hkr hx)).and ((Late.of (eqSetR_refl (onlyF w keys (l.map conv)).1 _ hr)).and ((Late.of (eqEntryS_refl _ hx.n hx.r)).and ((Late.of (eqSS_refl keys (by omega) (fun r h => by have := hkr r h; omega))).and ((Late.of (markE_ev (l.map conv) 1 (by omega) (by omega) (by omega))).and ((Late.of (markSS_ev keys (1 + cellsE (l.map conv)) (by omega) (by omega) (by omega))).and ((Late.of (markSet_ev (onlyF w keys (l.map conv)).1 (onlyF w keys (l.map conv)).2 1 (by omega) (by omega) (by omega))).and (Late.of (heldSet_ev (onlyF w keys (l.map conv)).1 (onlyF w keys (l.map conv)).2 1 (by omega) (by omega) (by omega))))))))))))))).ex
  exact ⟨k, .inr (.inr ⟨_, _, _, _, _, _, _, _, _, _, _, e0, e1, e2, e3, e4, e5, e6, e7, e8, e9, e10, e11, e12, h0, by omega, by omega, by omega, by omega⟩)⟩

end Go.Proofs.Ythnbghcfjkmpoaa.Pure
