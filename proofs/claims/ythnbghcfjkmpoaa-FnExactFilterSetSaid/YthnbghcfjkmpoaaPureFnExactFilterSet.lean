/- The law FnExactFilterSet answers true for every list of entries and all numbers. -/
import Derived.Test.YthnbghcfjkmpoaaKit
import Derived.Test.YthnbghcfjkmpoaaVFnExactFilterSet
namespace Go.Proofs.Ythnbghcfjkmpoaa.Pure
open Go.RowKit Go.Proofs.Ythnbghcfjkmpoaa.PFnExactFilterSet Go.Proofs.YthnbghcfjkmpoaaW.PrintWords Go.Proofs.YthnbghcfjkmpoaaW.PrintLast Go.Proofs.Ythnbghcfjkmpoaa
set_option linter.unusedSimpArgs false
set_option linter.unusedVariables false

theorem w64n {i n : Nat} (h : i < n) (hn : n ≤ 9223372036854775807) : wrap64 ((i : Int) + 1) = ((i + 1 : Nat) : Int) := by
  rw [Kit.w64 (by omega) (by omega)]; rfl
theorem rd_drop {xs : List Int} {i : Nat} (h : i < xs.length) : xs.drop i = rd xs (i : Int) :: xs.drop (i + 1) := by
  rw [Kit.rd_at h]; exact List.drop_eq_getElem_cons h
theorem toInt64S_l0 (xs : List Int) (hn : xs.length ≤ 9223372036854775807) : ∀ (d i : Nat) (ys : List Int), i + d = xs.length → ys.length = xs.length → (∀ j, j < i → ys[j]? = xs[j]?) → Ev (fun k => laws_toInt64S.l0 k xs ys (i : Int)) xs := by
  intro d
  induction d with
  | zero =>
    intro i ys hd hl he
    refine Kit.Ev.up ?_
    simp only [laws_toInt64S.l0]
    refine Kit.Ev.neg (by omega) (Kit.Ev.const ?_)
    congr 1
    apply List.ext_getElem?
    intro j
    by_cases hj : j < i
    · exact he j hj
    · rw [List.getElem?_eq_none (by omega), List.getElem?_eq_none (by omega)]
  | succ d ih =>
    intro i ys hd hl he
    refine Kit.Ev.up ?_
    simp only [laws_toInt64S.l0]
    refine Kit.Ev.pos (by omega) (Kit.Ev.pos (by omega) (Kit.Ev.pos (by omega) ?_))
    rw [w64n (n := xs.length) (by omega) hn, Int.toNat_natCast]
    refine ih (i + 1) _ (by omega) (by simpa using hl) (fun j hj => ?_)
    rw [List.getElem?_set]
    by_cases e : i = j
    · subst e
      rw [if_pos rfl, if_pos (by omega), Kit.rd_at (by omega), List.getElem?_eq_getElem (by omega)]
    · rw [if_neg e]
      exact he j (by omega)
theorem toInt64S_ev (xs : List Int) (hn : xs.length ≤ 1048576) : Ev (fun k => laws_toInt64S.f k xs) xs := by
  unfold laws_toInt64S.f
  refine Kit.Ev.pos (by omega) (Kit.Ev.pos (by omega) ?_)
  exact toInt64S_l0 xs (by omega) xs.length 0 _ (by omega) (by simp) (fun j hj => by omega)
theorem eqInt64S_l0 (xs ys : List Int) (hn : xs.length ≤ 9223372036854775807) (hl : xs.length = ys.length) : ∀ (d i : Nat), i + d = xs.length → Ev (fun k => laws_eqInt64S.l0 k xs ys (i : Int)) (decide (xs.drop i = ys.drop i)) := by
  intro d
  induction d with
  | zero =>
    intro i hd
    refine Kit.Ev.up ?_
    simp only [laws_eqInt64S.l0]
    refine Kit.Ev.neg (by omega) (Kit.Ev.const ?_)
    rw [List.drop_eq_nil_of_le (by omega), List.drop_eq_nil_of_le (by omega)]; simp
  | succ d ih =>
    intro i hd
    refine Kit.Ev.up ?_
    simp only [laws_eqInt64S.l0]
    refine Kit.Ev.pos (by omega) (Kit.Ev.pos (by omega) (Kit.Ev.pos (by omega) ?_))
    rw [rd_drop (xs := xs) (i := i) (by omega), rd_drop (xs := ys) (i := i) (by omega), w64n (n := xs.length) (by omega) hn]
    refine Kit.Ev.ite (fun h => ?_) (fun h => Kit.Ev.const ?_)
    · exact (ih (i + 1) (by omega)).eq (by rw [h]; simp)
    · simp [h]
theorem eqInt64S_ev (xs ys : List Int) (hn : xs.length ≤ 9223372036854775807) : Ev (fun k => laws_eqInt64S.f k xs ys) (decide (xs = ys)) := by
  unfold laws_eqInt64S.f
  refine Kit.Ev.ite (fun h => ?_) (fun h => Kit.Ev.const ?_)
  · exact (eqInt64S_l0 xs ys hn (by omega) xs.length 0 (by omega)).eq (by simp)
  · have : xs ≠ ys := fun e => h (by rw [e])
    simp [this]
theorem eqInt64S_refl (xs : List Int) (hn : xs.length ≤ 9223372036854775807) : Ev (fun k => laws_eqInt64S.f k xs xs) true := (eqInt64S_ev xs xs hn).eq (by simp)
theorem specIn_eq (a b c : Int) : spec_l1In.f a b c = some (decide (b ≤ a ∧ a ≤ c)) := by
  unfold spec_l1In.f
  by_cases h : a ≥ b
  · rw [if_pos h]; simp [show b ≤ a from h]
  · rw [if_neg h]; simp; intro h'; omega
theorem implIn_eq (a b c : Int) : impl_in.f a b c = some (decide (b ≤ a ∧ a ≤ c)) := by
  unfold impl_in.f
  by_cases h : a ≥ b
  · rw [if_pos h]; simp [show b ≤ a from h]
  · rw [if_neg h]; simp; intro h'; omega
def isW (x : Int) : Bool := decide (-1000000000000 ≤ x ∧ x ≤ 1000000000000)
theorem isW_iff {x : Int} : isW x = true ↔ -1000000000000 ≤ x ∧ x ≤ 1000000000000 := by simp [isW]
def addW (a b : Int) : Int × Int := if isW a = true ∧ isW b = true then (if isW (a + b) = true then (0, a + b) else (8, 0)) else (3, 0)
theorem addW_comm (a b : Int) : addW a b = addW b a := by
  unfold addW
  rw [Int.add_comm b a]; simp only [and_comm]
def mulP (a b : Int) : Int × Bool := if (a * b).natAbs ≤ 1000000000000 then (a * b, true) else (0, false)
theorem mulP_comm (a b : Int) : mulP a b = mulP b a := by
  unfold mulP
  rw [Int.mul_comm b a]
def mulW (a b : Int) : Int × Int := if isW a = true ∧ isW b = true then (if (mulP a b).2 = true then (0, (mulP a b).1) else (8, 0)) else (3, 0)
theorem mulW_comm (a b : Int) : mulW a b = mulW b a := by
  unfold mulW
  rw [mulP_comm b a]; simp only [and_comm]
theorem specWeight_eq (a : Int) : spec_l1Weight.f a = some (isW a) := by
  unfold spec_l1Weight.f
  rw [specIn_eq]; rfl
theorem implWeight_eq (a : Int) : impl_isWeight.f a = some (isW a) := by
  unfold impl_isWeight.f
  rw [implIn_eq]; rfl
def inC (x : Int) : Bool := decide (-1000000000 ≤ x ∧ x ≤ 1000000000)
def rowF (xs : List Int) : Int := if 4 < xs.length then 2 else if xs.all inC = true then 0 else 3
theorem specRow_l0 (xs : List Int) (hn : xs.length ≤ 9223372036854775807) : ∀ (d i : Nat), i + d = xs.length → Ev (fun k => spec_RowFault.l0 k xs (i : Int)) (if (xs.drop i).all inC = true then 0 else 3) := by
  intro d
  induction d with
  | zero =>
    intro i hd
    refine Kit.Ev.up ?_
    simp only [spec_RowFault.l0]
    refine Kit.Ev.neg (by omega) (Kit.Ev.const ?_)
    rw [List.drop_eq_nil_of_le (by omega)]; simp
  | succ d ih =>
    intro i hd
    refine Kit.Ev.up ?_
    simp only [spec_RowFault.l0]
    refine Kit.Ev.pos (by omega) (Kit.Ev.pos (by omega) ?_)
    rw [specIn_eq]
    simp only [Option.bind_some]
    rw [rd_drop (xs := xs) (i := i) (by omega), w64n (n := xs.length) (by omega) hn]
    by_cases h : inC (rd xs (i : Int)) = true
    · refine Kit.Ev.pos h ((ih (i + 1) (by omega)).eq ?_)
      simp [h]
    · refine Kit.Ev.neg h (Kit.Ev.const ?_)
      simp [h]
theorem specRow_ev (xs : List Int) (hn : xs.length ≤ 9223372036854775807) : Ev (fun k => spec_RowFault.f k xs) (rowF xs) := by
  unfold spec_RowFault.f
  refine Kit.Ev.ite (fun h => Kit.Ev.const ?_) (fun h => ?_)
  · simp [rowF, show 4 < xs.length by omega]
  · exact (specRow_l0 xs hn xs.length 0 (by omega)).eq (by simp [rowF, show ¬ 4 < xs.length by omega])
theorem implRow_l0 (xs : List Int) (hn : xs.length ≤ 9223372036854775807) : ∀ (d i : Nat), i + d = xs.length → Ev (fun k => impl_RowFault.l0 k xs (xs.length : Int) (i : Int)) (if (xs.drop i).all inC = true then 0 else 3) := by
  intro d
  induction d with
  | zero =>
    intro i hd
    refine Kit.Ev.up ?_
    simp only [impl_RowFault.l0]
    refine Kit.Ev.neg (by omega) (Kit.Ev.const ?_)
    rw [List.drop_eq_nil_of_le (by omega)]; simp
  | succ d ih =>
    intro i hd
    refine Kit.Ev.up ?_
    simp only [impl_RowFault.l0]
    refine Kit.Ev.pos (by omega) (Kit.Ev.pos (by omega) (Kit.Ev.pos (by omega) ?_))
    rw [implIn_eq]
    simp only [Option.bind_some]
    rw [rd_drop (xs := xs) (i := i) (by omega), w64n (n := xs.length) (by omega) hn]
    by_cases h : inC (rd xs (i : Int)) = true
    · refine Kit.Ev.pos h ((ih (i + 1) (by omega)).eq ?_)
      simp [h]
    · refine Kit.Ev.neg h (Kit.Ev.const ?_)
      simp [h]
theorem implRow_ev (xs : List Int) (hn : xs.length ≤ 9223372036854775807) : Ev (fun k => impl_RowFault.f k xs) (rowF xs) := by
  unfold impl_RowFault.f
  refine Kit.Ev.ite (fun h => Kit.Ev.const ?_) (fun h => ?_)
  · simp [rowF, show 4 < xs.length by omega]
  · exact (implRow_l0 xs hn xs.length 0 (by omega)).eq (by simp [rowF, show ¬ 4 < xs.length by omega])
def cmpR : List Int → List Int → Int
  | [], [] => 0
  | [], _ :: _ => -1
  | _ :: _, [] => 1
  | a :: xs, b :: ys => if a < b then -1 else if b < a then 1 else cmpR xs ys
theorem cmpR_len : ∀ (xs ys : List Int), xs = [] ∨ ys = [] → cmpR xs ys = if xs.length < ys.length then -1 else if ys.length < xs.length then 1 else 0
  | [], [], _ => rfl
  | [], _ :: _, _ => by simp [cmpR]
  | _ :: _, [], _ => by simp [cmpR]
  | _ :: _, _ :: _, h => by simp at h
theorem specCmp_l0 (xs ys : List Int) (hn : xs.length ≤ 9223372036854775807) : ∀ (d i : Nat), i + d = min xs.length ys.length → Ev (fun k => spec_CompareRows.l0 k xs ys (i : Int)) (cmpR (xs.drop i) (ys.drop i)) := by
  intro d
  induction d with
  | zero =>
    intro i hd
    refine Kit.Ev.up (Kit.Ev.up ?_)
    simp only [spec_CompareRows.l0, spec_CompareRows.j1]
    have hend : Ev (fun _ : Nat => if (xs.length : Int) < (ys.length : Int) then some (-1 : Int) else if (xs.length : Int) > (ys.length : Int) then some 1 else some 0) (cmpR (xs.drop i) (ys.drop i)) := by
      refine Kit.Ev.const ?_
      rw [cmpR_len _ _ (by
        by_cases h : i = xs.length
        · exact .inl (List.drop_eq_nil_of_le (by omega))
        · exact .inr (List.drop_eq_nil_of_le (by omega)))]
      simp only [List.length_drop]
      by_cases h1 : xs.length < ys.length
      · rw [if_pos (by omega), if_pos (by omega)]
      · by_cases h2 : ys.length < xs.length
        · rw [if_neg (by omega), if_pos (by omega), if_neg (by omega), if_pos (by omega)]
        · rw [if_neg (by omega), if_neg (by omega), if_neg (by omega), if_neg (by omega)]
    refine Kit.Ev.ite (fun h => ?_) (fun h => ?_)
    · refine Kit.Ev.neg (by simp; omega) hend
    · exact Kit.Ev.neg (by simp) hend
  | succ d ih =>
    intro i hd
    refine Kit.Ev.up (Kit.Ev.up ?_)
    simp only [spec_CompareRows.l0, spec_CompareRows.j1]
    refine Kit.Ev.pos (by omega) (Kit.Ev.pos (by simp; omega) (Kit.Ev.pos (by omega) (Kit.Ev.pos (by omega) (Kit.Ev.pos (by omega) ?_))))
    rw [rd_drop (xs := xs) (i := i) (by omega), rd_drop (xs := ys) (i := i) (by omega), w64n (n := xs.length) (by omega) hn]
    simp only [cmpR]
    refine Kit.Ev.ite2 (fun _ => Kit.Ev.const rfl) (fun _ => ?_)
    exact Kit.Ev.ite2 (fun _ => Kit.Ev.const rfl) (fun _ => ih (i + 1) (by omega))
theorem specCmp_ev (xs ys : List Int) (hn : xs.length ≤ 9223372036854775807) : Ev (fun k => spec_CompareRows.f k xs ys) (cmpR xs ys) := specCmp_l0 xs ys hn _ 0 (Nat.zero_add _)
theorem cmp64_eq (a b : Int) : cmp_Compare_int64.f a b = some (if a < b then -1 else if b < a then 1 else 0) := by
  unfold cmp_Compare_int64.f cmp_isNaN_int64.f
  simp only [bne_self_eq_false, Option.bind_some, Bool.false_eq_true, if_false]
  by_cases h1 : a < b
  · simp [h1]
  · by_cases h2 : b < a <;> simp [h1, h2]
theorem cmpI_eq (a b : Int) : cmp_Compare_int.f a b = some (if a < b then -1 else if b < a then 1 else 0) := by
  unfold cmp_Compare_int.f cmp_isNaN_int.f
  simp only [bne_self_eq_false, Option.bind_some, Bool.false_eq_true, if_false]
  by_cases h1 : a < b
  · simp [h1]
  · by_cases h2 : b < a <;> simp [h1, h2]
theorem implCmp_l0 (xs ys : List Int) (hn : xs.length ≤ 9223372036854775807) : ∀ (d i : Nat), i + d = min xs.length ys.length → Ev (fun k => impl_CompareRows.l0 k xs ys ((min xs.length ys.length : Nat) : Int) (i : Int)) (cmpR (xs.drop i) (ys.drop i)) := by
  intro d
  induction d with
  | zero =>
    intro i hd
    refine Kit.Ev.up ?_
    simp only [impl_CompareRows.l0]
    refine Kit.Ev.neg (by omega) ?_
    rw [cmpI_eq]
    refine Kit.Ev.const ?_
    rw [cmpR_len _ _ (by
      by_cases h : i = xs.length
      · exact .inl (List.drop_eq_nil_of_le (by omega))
      · exact .inr (List.drop_eq_nil_of_le (by omega)))]
    simp only [List.length_drop, Option.bind_some]
    by_cases h1 : xs.length < ys.length
    · rw [if_pos (by omega), if_pos (by omega)]
    · by_cases h2 : ys.length < xs.length
      · rw [if_neg (by omega), if_pos (by omega), if_neg (by omega), if_pos (by omega)]
      · rw [if_neg (by omega), if_neg (by omega), if_neg (by omega), if_neg (by omega)]
  | succ d ih =>
    intro i hd
    refine Kit.Ev.up ?_
    simp only [impl_CompareRows.l0]
    refine Kit.Ev.pos (by omega) (Kit.Ev.pos (by omega) (Kit.Ev.pos (by omega) (Kit.Ev.pos (by omega) ?_)))
    rw [rd_drop (xs := xs) (i := i) (by omega), rd_drop (xs := ys) (i := i) (by omega), w64n (n := xs.length) (by omega) hn, cmp64_eq]
    simp only [cmpR, Option.bind_some]
    by_cases h1 : rd xs (i : Int) < rd ys (i : Int)
    · simp only [h1, if_true]; exact Kit.Ev.const rfl
    · by_cases h2 : rd ys (i : Int) < rd xs (i : Int)
      · simp only [h1, h2, if_true, if_false]; exact Kit.Ev.const rfl
      · simp only [h1, h2, if_true, if_false]; exact ih (i + 1) (by omega)
theorem implCmp_ev (xs ys : List Int) (hn : xs.length ≤ 9223372036854775807) : Ev (fun k => impl_CompareRows.f k xs ys) (cmpR xs ys) := by
  unfold impl_CompareRows.f
  refine Kit.Ev.ite (fun h => ?_) (fun h => ?_)
  · have := implCmp_l0 xs ys hn _ 0 (Nat.zero_add _)
    rwa [Nat.min_eq_right (by omega)] at this
  · have := implCmp_l0 xs ys hn _ 0 (Nat.zero_add _)
    rwa [Nat.min_eq_left (by omega)] at this
/-- The rows are no longer than any machine's. -/
def Fine (l : List S65) : Prop := l.length ≤ 1048576 ∧ ∀ x ∈ l, x.f0.length ≤ 1048576
theorem Fine.n {l : List S65} (h : Fine l) : l.length ≤ 9223372036854775807 := by have := h.1; omega
theorem Fine.r {l : List S65} (h : Fine l) : ∀ x ∈ l, x.f0.length ≤ 9223372036854775807 := fun x hx => by have := h.2 x hx; omega
def setG : Option (List Int) → List S65 → Int
  | _, [] => 0
  | p, x :: xs => if rowF x.f0 = 0 then (if isW x.f1 = true ∧ x.f1 ≠ 0 then (match p with | some q => if cmpR q x.f0 ≥ 0 then 1 else setG (some x.f0) xs | none => setG (some x.f0) xs) else 3) else rowF x.f0
def setF (l : List S65) : Int := if 200 < l.length then 2 else setG none l
def prevE (xs : List S65) (i : Nat) : Option (List Int) := if i = 0 then none else some (rd_T65 xs ((i - 1 : Nat) : Int)).f0
theorem prevE_succ (xs : List S65) (i : Nat) : prevE xs (i + 1) = some (rd_T65 xs (i : Int)).f0 := by simp [prevE]
theorem w64p {i : Nat} (h : 0 < i) (hn : i ≤ 9223372036854775807) : wrap64 ((i : Int) - 1) = ((i - 1 : Nat) : Int) := by
  rw [Kit.w64 (by omega) (by omega)]; omega
def testB (v t u : Int) : Bool := if t = 0 then v == u else if t = 1 then decide (v < u) else decide (v > u)
def hasCol (col : Int) (x : S65) : Bool := decide (0 ≤ col ∧ col ≤ (x.f0.length : Int) - 1)
def filtL (col t u : Int) : List S65 → List S65
  | [] => []
  | x :: xs => if testB (rd x.f0 col) t u = true then ⟨x.f0, x.f1⟩ :: filtL col t u xs else filtL col t u xs
def filterF (col t u : Int) (l : List S65) : Int × List S65 :=
  if setF l = 0 then (if 0 ≤ t ∧ t ≤ 2 then (if inC u = true then (if l.all (hasCol col) = true then (0, filtL col t u l) else (1, [])) else (3, [])) else (3, [])) else (setF l, [])
theorem filtL_fine (col t u : Int) : ∀ {l : List S65}, (∀ x ∈ l, x.f0.length ≤ 1048576) → (filtL col t u l).length ≤ l.length ∧ ∀ x ∈ filtL col t u l, x.f0.length ≤ 1048576
  | [], _ => ⟨by simp [filtL], by simp [filtL]⟩
  | x :: xs, h => by
    obtain ⟨a, b⟩ := filtL_fine col t u (l := xs) (fun y hy => h y (by simp [hy]))
    simp only [filtL]
    by_cases c : testB (rd x.f0 col) t u = true
    · rw [if_pos c]
      refine ⟨by simp only [List.length_cons]; omega, fun y hy => ?_⟩
      rcases List.mem_cons.mp hy with rfl | hy
      · exact h x (by simp)
      · exact b y hy
    · rw [if_neg c]
      exact ⟨by simp only [List.length_cons]; omega, b⟩
theorem filterF_fine (col t u : Int) {l : List S65} (hx : Fine l) : Fine (filterF col t u l).2 := by
  unfold filterF
  have nil : Fine ([] : List S65) := ⟨by simp, by simp⟩
  repeat' split
  · obtain ⟨a, b⟩ := filtL_fine col t u hx.2
    exact ⟨Nat.le_trans a hx.1, b⟩
  all_goals exact nil
theorem l2Row_eq (l : List Int) (h : l.length ≤ 1048576) : spec_l2Row.f l = some l := by
  unfold spec_l2Row.f
  simp only [Option.bind_some, List.nil_append]
  rw [if_pos (by simp only [List.length_nil]; omega)]
theorem rdE_at {xs : List S65} {i : Nat} (h : i < xs.length) : rd_T65 xs (i : Int) = xs[i] := by simp [rd_T65, h]
theorem rdE_drop {xs : List S65} {i : Nat} (h : i < xs.length) : xs.drop i = rd_T65 xs (i : Int) :: xs.drop (i + 1) := by
  rw [rdE_at h]; exact List.drop_eq_getElem_cons h
theorem rdE_mem {xs : List S65} {i : Nat} (h : i < xs.length) : rd_T65 xs (i : Int) ∈ xs := by
  rw [rdE_at h]; exact List.getElem_mem h
theorem cmpR_anti : ∀ xs ys : List Int, cmpR xs ys = - cmpR ys xs
  | [], [] => rfl
  | [], _ :: _ => rfl
  | _ :: _, [] => rfl
  | a :: xs, b :: ys => by
    simp only [cmpR]
    have ih := cmpR_anti xs ys
    by_cases h1 : a < b
    · rw [if_pos h1, if_neg (by omega), if_pos h1]
    · by_cases h2 : b < a
      · rw [if_neg h1, if_pos h2, if_pos h2]; rfl
      · rw [if_neg h1, if_neg h2, if_neg h2, if_neg h1]; exact ih
theorem specSet_l0 (xs : List S65) (hx : Fine xs) : ∀ (d i : Nat), i + d = xs.length → Ev (fun k => spec_SetFault.l0 k xs (i : Int)) (setG (prevE xs i) (xs.drop i)) := by
  have hn := hx.n
  intro d
  induction d with
  | zero =>
    intro i hd
    refine Kit.Ev.up ?_
    simp only [spec_SetFault.l0]
    refine Kit.Ev.neg (by omega) (Kit.Ev.const ?_)
    rw [List.drop_eq_nil_of_le (by omega)]; simp [setG]
  | succ d ih =>
    intro i hd
    have hm := hx.r _ (rdE_mem (xs := xs) (i := i) (by omega))
    have hj : ∀ b : Bool, b = ! decide (isW (rd_T65 xs (i : Int)).f1 = true ∧ (rd_T65 xs (i : Int)).f1 ≠ 0) → rowF (rd_T65 xs (i : Int)).f0 = 0 → Ev (fun k => spec_SetFault.j1 k xs (i : Int) b) (setG (prevE xs i) (xs.drop i)) := by
      intro b hb hrow
      rw [rdE_drop (xs := xs) (i := i) (by omega)]
      simp only [setG]
      rw [if_pos hrow]
      refine Kit.Ev.up ?_
      simp only [spec_SetFault.j1]
      by_cases hw : isW (rd_T65 xs (i : Int)).f1 = true ∧ (rd_T65 xs (i : Int)).f1 ≠ 0
      · rw [if_pos hw]
        refine Kit.Ev.neg (by rw [hb]; simp [hw]) ?_
        by_cases h0 : i = 0
        · subst h0
          refine Kit.Ev.neg (by omega) ?_
          rw [w64n (n := xs.length) (by omega) hn]
          have := ih 1 (by omega)
          rw [show prevE xs 1 = some (rd_T65 xs ((0 : Nat) : Int)).f0 from prevE_succ xs 0] at this
          simpa [prevE] using this
        · refine Kit.Ev.pos (by omega) (Kit.Ev.pos (by omega) (Kit.Ev.pos (by omega) ?_))
          rw [w64p (by omega) (by omega)]
          refine Kit.Ev.pos (by omega) (Kit.Ev.pos (by omega) ?_)
          refine Kit.Ev.then (specCmp_ev _ _ hm) ?_
          rw [w64n (n := xs.length) (by omega) hn, show prevE xs i = some (rd_T65 xs ((i - 1 : Nat) : Int)).f0 from by simp [prevE, h0]]
          dsimp only
          rw [cmpR_anti (rd_T65 xs ((i - 1 : Nat) : Int)).f0]
          refine Kit.Ev.ite (fun hc => Kit.Ev.const ?_) (fun hc => ?_)
          · rw [if_pos (by omega)]
          · rw [if_neg (by omega), ← prevE_succ]
            exact ih (i + 1) (by omega)
      · rw [if_neg hw]
        exact Kit.Ev.pos (by rw [hb]; simp only [hw, decide_false]; rfl) (Kit.Ev.const rfl)
    refine Kit.Ev.up ?_
    simp only [spec_SetFault.l0]
    refine Kit.Ev.pos (by omega) (Kit.Ev.pos (by omega) (Kit.Ev.then (specRow_ev _ hm) ?_))
    refine Kit.Ev.ite (fun hrow => ?_) (fun hrow => Kit.Ev.const ?_)
    · rw [specWeight_eq]
      simp only [Option.bind_some]
      refine Kit.Ev.ite (fun hw => hj _ ?_ hrow) (fun hw => hj _ ?_ hrow)
      · by_cases hz : (rd_T65 xs (i : Int)).f1 = 0 <;> simp [hw, hz]
      · simp [hw]
    · rw [rdE_drop (xs := xs) (i := i) (by omega)]
      simp only [setG]
      rw [if_neg hrow]
theorem specSet_ev (xs : List S65) (hx : Fine xs) : Ev (fun k => spec_SetFault.f k xs) (setF xs) := by
  unfold spec_SetFault.f setF
  refine Kit.Ev.ite (fun h => Kit.Ev.const ?_) (fun h => ?_)
  · rw [if_pos (by omega)]
  · rw [if_neg (by omega)]
    exact (specSet_l0 xs hx xs.length 0 (by omega)).eq (by simp [prevE])
theorem specTest_eq (v t u : Int) : spec_l4Test.f v t u = some (testB v t u) := by
  unfold spec_l4Test.f testB
  by_cases h : t = 0
  · rw [if_pos h, if_pos h]
  · rw [if_neg h, if_neg h]
    by_cases h1 : t = 1
    · rw [if_pos h1, if_pos h1]
    · rw [if_neg h1, if_neg h1]
theorem specFiltL_l0 (col t u : Int) (xs : List S65) (hx : Fine xs) (hc : ∀ x ∈ xs, hasCol col x = true) : ∀ (d i : Nat) (out : List S65), i + d = xs.length → out.length ≤ i → Ev (fun k => spec_l4Filter.l0 k xs col t u out (i : Int)) (out ++ filtL col t u (xs.drop i)) := by
  have hl := hx.1
  intro d
  induction d with
  | zero =>
    intro i out hd _
    refine Kit.Ev.up ?_
    simp only [spec_l4Filter.l0]
    refine Kit.Ev.neg (by omega) (Kit.Ev.const ?_)
    rw [List.drop_eq_nil_of_le (by omega)]; simp [filtL]
  | succ d ih =>
    intro i out hd ho
    refine Kit.Ev.up ?_
    simp only [spec_l4Filter.l0]
    have hm := rdE_mem (xs := xs) (i := i) (by omega)
    have hcol := of_decide_eq_true (hc _ hm)
    rw [rdE_drop (xs := xs) (i := i) (by omega), w64n (n := xs.length) (by omega) hx.n]
    simp only [filtL]
    refine Kit.Ev.pos (by omega) (Kit.Ev.pos (by omega) (Kit.Ev.pos hcol.1 (Kit.Ev.pos (by omega) (Kit.Ev.call (specTest_eq _ _ _) (Kit.Ev.ite (fun h => ?_) (fun h => ?_))))))
    · rw [if_pos h]
      refine Kit.Ev.call (l2Row_eq _ (hx.2 _ hm)) (Kit.Ev.pos (by omega) ?_)
      exact (ih (i + 1) _ (by omega) (by rw [List.length_append]; simp only [List.length_cons, List.length_nil]; omega)).eq (by simp)
    · rw [if_neg h]
      exact ih (i + 1) out (by omega) (by omega)
theorem specFiltL_ev (col t u : Int) (xs : List S65) (hx : Fine xs) (hc : ∀ x ∈ xs, hasCol col x = true) : Ev (fun k => spec_l4Filter.f k xs col t u) (filtL col t u xs) := by
  unfold spec_l4Filter.f
  exact (specFiltL_l0 col t u xs hx hc xs.length 0 [] (by omega) (by simp)).eq (by simp)
theorem specFilter_l0 (col t u : Int) (xs : List S65) (hx : Fine xs) (r : Int × List S65) (hr : (∀ x ∈ xs, hasCol col x = true) → Ev (fun k => spec_l4Filter.f k xs col t u) (filtL col t u xs)) :
    ∀ (d i : Nat), i + d = xs.length → (∀ x ∈ xs.take i, hasCol col x = true) → Ev (fun k => spec_FilterSet.l0 k xs col t u (i : Int)) (if (xs.drop i).all (hasCol col) = true then (0, filtL col t u xs) else (1, [])) := by
  have hl := hx.1
  intro d
  induction d with
  | zero =>
    intro i hd ha
    refine Kit.Ev.up ?_
    simp only [spec_FilterSet.l0]
    refine Kit.Ev.neg (by omega) ?_
    rw [List.drop_eq_nil_of_le (by omega)]
    rw [List.take_of_length_le (by omega)] at ha
    exact Kit.Ev.then (hr ha) (Kit.Ev.const (by simp))
  | succ d ih =>
    intro i hd ha
    refine Kit.Ev.up ?_
    simp only [spec_FilterSet.l0]
    have hm := rdE_mem (xs := xs) (i := i) (by omega)
    have hml := hx.2 _ hm
    rw [rdE_drop (xs := xs) (i := i) (by omega), w64n (n := xs.length) (by omega) hx.n, Kit.w64 (x := ((rd_T65 xs (i : Int)).f0.length : Int) - 1) (by omega) (by omega), specIn_eq]
    refine Kit.Ev.pos (by omega) (Kit.Ev.pos (by omega) ?_)
    simp only [Option.bind_some]
    refine Kit.Ev.ite (fun h => ?_) (fun h => Kit.Ev.const ?_)
    · have hh : hasCol col (rd_T65 xs (i : Int)) = true := h
      refine (ih (i + 1) (by omega) (fun x hx' => ?_)).eq (by simp [hh])
      rw [List.take_add_one, List.getElem?_eq_getElem (by omega), ← rdE_at (by omega)] at hx'
      rcases List.mem_append.mp hx' with h1 | h1
      · exact ha x h1
      · simp at h1; rw [h1]; exact hh
    · have hh : ¬ hasCol col (rd_T65 xs (i : Int)) = true := h
      simp [hh]
theorem specFilter_ev (col t u : Int) (xs : List S65) (hx : Fine xs) : Ev (fun k => spec_FilterSet.f k xs col t u) (filterF col t u xs) := by
  unfold spec_FilterSet.f filterF
  refine Kit.Ev.then (specSet_ev xs hx) (Kit.Ev.ite2 (fun _ => ?_) (fun _ => Kit.Ev.const rfl))
  rw [specIn_eq, specIn_eq]
  simp only [Option.bind_some]
  by_cases ht : 0 ≤ t ∧ t ≤ 2
  · rw [if_pos ht]
    refine Kit.Ev.pos (decide_eq_true ht) (Kit.Ev.up ?_)
    simp only [spec_FilterSet.j0]
    by_cases hu : inC u = true
    · rw [if_pos hu]
      refine Kit.Ev.neg (by simpa [inC] using hu) ?_
      exact (specFilter_l0 col t u xs hx (0, []) (fun hc => specFiltL_ev col t u xs hx hc) xs.length 0 (by omega) (by simp)).eq (by simp)
    · rw [if_neg hu]
      exact Kit.Ev.pos (by simp [inC] at hu ⊢; omega) (Kit.Ev.const rfl)
  · rw [if_neg ht]
    refine Kit.Ev.neg (by simpa using ht) (Kit.Ev.up ?_)
    simp only [spec_FilterSet.j0]
    exact Kit.Ev.pos (by trivial) (Kit.Ev.const rfl)
theorem clone_eq (l : List Int) (h : l.length ≤ 1048576) : slices_Clone_int64_int64.f l = some l := by
  unfold slices_Clone_int64_int64.f
  rw [if_pos (by omega)]
theorem implSet_l0 (xs : List S65) (hx : Fine xs) : ∀ (d i : Nat), i + d = xs.length → Ev (fun k => impl_SetFault.l0 k xs xs (xs.length : Int) (i : Int)) (setG (prevE xs i) (xs.drop i)) := by
  have hn := hx.n
  intro d
  induction d with
  | zero =>
    intro i hd
    refine Kit.Ev.up ?_
    simp only [impl_SetFault.l0]
    refine Kit.Ev.neg (by omega) (Kit.Ev.const ?_)
    rw [List.drop_eq_nil_of_le (by omega)]; simp [setG]
  | succ d ih =>
    intro i hd
    have hm := hx.r _ (rdE_mem (xs := xs) (i := i) (by omega))
    have hj : ∀ b : Bool, b = ! decide (isW (rd_T65 xs (i : Int)).f1 = true ∧ (rd_T65 xs (i : Int)).f1 ≠ 0) → rowF (rd_T65 xs (i : Int)).f0 = 0 → Ev (fun k => impl_SetFault.j1 k xs (i : Int) xs (xs.length : Int) (i : Int) b (rd_T65 xs (i : Int)).f0 (rd_T65 xs (i : Int)).f1) (setG (prevE xs i) (xs.drop i)) := by
      intro b hb hrow
      rw [rdE_drop (xs := xs) (i := i) (by omega)]
      simp only [setG]
      rw [if_pos hrow]
      refine Kit.Ev.up ?_
      simp only [impl_SetFault.j1]
      by_cases hw : isW (rd_T65 xs (i : Int)).f1 = true ∧ (rd_T65 xs (i : Int)).f1 ≠ 0
      · rw [if_pos hw]
        refine Kit.Ev.neg (by rw [hb]; simp [hw]) ?_
        by_cases h0 : i = 0
        · subst h0
          refine Kit.Ev.neg (by omega) ?_
          rw [w64n (n := xs.length) (by omega) hn]
          have := ih 1 (by omega)
          rw [show prevE xs 1 = some (rd_T65 xs ((0 : Nat) : Int)).f0 from prevE_succ xs 0] at this
          simpa [prevE] using this
        · refine Kit.Ev.pos (by omega) ?_
          rw [w64p (by omega) (by omega)]
          have hp := hx.r _ (rdE_mem (xs := xs) (i := i - 1) (by omega))
          refine Kit.Ev.pos (by omega) (Kit.Ev.pos (by omega) ?_)
          refine Kit.Ev.then (implCmp_ev _ _ hp) ?_
          rw [w64n (n := xs.length) (by omega) hn, show prevE xs i = some (rd_T65 xs ((i - 1 : Nat) : Int)).f0 from by simp [prevE, h0]]
          dsimp only
          refine Kit.Ev.ite (fun hc => Kit.Ev.const ?_) (fun hc => ?_)
          · rw [if_pos (by omega)]
          · rw [if_neg (by omega), ← prevE_succ]
            exact ih (i + 1) (by omega)
      · rw [if_neg hw]
        exact Kit.Ev.pos (by rw [hb]; simp only [hw, decide_false]; rfl) (Kit.Ev.const rfl)
    refine Kit.Ev.up ?_
    simp only [impl_SetFault.l0]
    refine Kit.Ev.pos (by omega) (Kit.Ev.pos (by omega) (Kit.Ev.pos (by omega) (Kit.Ev.then (implRow_ev _ hm) ?_)))
    refine Kit.Ev.ite (fun hrow => ?_) (fun hrow => Kit.Ev.const ?_)
    · rw [implWeight_eq]
      simp only [Option.bind_some]
      refine Kit.Ev.ite (fun hw => hj _ ?_ hrow) (fun hw => hj _ ?_ hrow)
      · by_cases hz : (rd_T65 xs (i : Int)).f1 = 0 <;> simp [hw, hz]
      · simp [hw]
    · rw [rdE_drop (xs := xs) (i := i) (by omega)]
      simp only [setG]
      rw [if_neg hrow]
theorem implSet_ev (xs : List S65) (hx : Fine xs) : Ev (fun k => impl_SetFault.f k xs) (setF xs) := by
  unfold impl_SetFault.f setF
  refine Kit.Ev.ite (fun h => Kit.Ev.const ?_) (fun h => ?_)
  · rw [if_pos (by omega)]
  · rw [if_neg (by omega)]
    exact (implSet_l0 xs hx xs.length 0 (by omega)).eq (by simp [prevE])
theorem implTest_eq (v t u : Int) (h0 : 0 ≤ t) (h2 : t ≤ 2) : impl_isTrue.f v t u = some (testB v t u) := by
  unfold impl_isTrue.f testB
  by_cases h1 : t = 1
  · rw [if_pos h1, if_neg (by omega), if_pos h1]
  · rw [if_neg h1]
    by_cases h3 : t = 2
    · rw [if_pos h3, if_neg (by omega), if_neg h1]
    · rw [if_neg h3, if_pos (by omega)]
theorem implFilter_l0 (col t u : Int) (h0 : 0 ≤ t) (h2 : t ≤ 2) (xs : List S65) (hx : Fine xs) : ∀ (d i : Nat) (out : List S65), i + d = xs.length → out.length ≤ i →
    Ev (fun k => impl_FilterSet.l0 k col t u out xs (xs.length : Int) (i : Int)) (if (xs.drop i).all (hasCol col) = true then (0, out ++ filtL col t u (xs.drop i)) else (1, [])) := by
  have hl := hx.1
  intro d
  induction d with
  | zero =>
    intro i out hd _
    refine Kit.Ev.up ?_
    simp only [impl_FilterSet.l0]
    refine Kit.Ev.neg (by omega) (Kit.Ev.const ?_)
    rw [List.drop_eq_nil_of_le (by omega)]; simp [filtL]
  | succ d ih =>
    intro i out hd ho
    refine Kit.Ev.up ?_
    simp only [impl_FilterSet.l0, impl_size_int64.f, Option.bind_some]
    have hm := rdE_mem (xs := xs) (i := i) (by omega)
    have hml := hx.2 _ hm
    rw [rdE_drop (xs := xs) (i := i) (by omega), w64n (n := xs.length) (by omega) hx.n, Kit.w64 (x := ((rd_T65 xs (i : Int)).f0.length : Int) - 1) (by omega) (by omega), implIn_eq]
    refine Kit.Ev.pos (by omega) (Kit.Ev.pos (by omega) (Kit.Ev.pos (by omega) ?_))
    simp only [Option.bind_some, filtL]
    refine Kit.Ev.ite (fun h => ?_) (fun h => Kit.Ev.const ?_)
    · have hh : hasCol col (rd_T65 xs (i : Int)) = true := h
      have hcol := of_decide_eq_true h
      refine Kit.Ev.pos hcol.1 (Kit.Ev.pos (by omega) (Kit.Ev.call (implTest_eq _ _ _ h0 h2) (Kit.Ev.ite (fun h => ?_) (fun h => ?_))))
      · refine Kit.Ev.call (clone_eq _ hml) (Kit.Ev.pos (by omega) ?_)
        refine (ih (i + 1) _ (by omega) (by rw [List.length_append]; simp only [List.length_cons, List.length_nil]; omega)).eq (by simp [hh, h])
      · exact (ih (i + 1) out (by omega) (by omega)).eq (by simp [hh, h])
    · have hh : ¬ hasCol col (rd_T65 xs (i : Int)) = true := h
      simp [hh]
theorem implFilter_ev (col t u : Int) (xs : List S65) (hx : Fine xs) : Ev (fun k => impl_FilterSet.f k xs col t u) (filterF col t u xs) := by
  unfold impl_FilterSet.f filterF
  refine Kit.Ev.then (implSet_ev xs hx) (Kit.Ev.ite2 (fun _ => ?_) (fun _ => Kit.Ev.const rfl))
  rw [implIn_eq, implIn_eq]
  simp only [Option.bind_some]
  by_cases ht : 0 ≤ t ∧ t ≤ 2
  · rw [if_pos ht]
    refine Kit.Ev.pos (decide_eq_true ht) (Kit.Ev.up ?_)
    simp only [impl_FilterSet.j0]
    by_cases hu : inC u = true
    · rw [if_pos hu]
      refine Kit.Ev.neg (by simpa [inC] using hu) ?_
      exact (implFilter_l0 col t u ht.1 ht.2 xs hx xs.length 0 [] (by omega) (by simp)).eq (by simp)
    · rw [if_neg hu]
      exact Kit.Ev.pos (by simp [inC] at hu ⊢; omega) (Kit.Ev.const rfl)
  · rw [if_neg ht]
    refine Kit.Ev.neg (by simpa using ht) (Kit.Ev.up ?_)
    simp only [impl_FilterSet.j0]
    exact Kit.Ev.pos (by trivial) (Kit.Ev.const rfl)
/-- What a mark writes: count by count. -/
def seqF (f : Int → Int) (a : Int) : Nat → List Int
  | 0 => []
  | n + 1 => f a :: seqF f (a + 1) n
theorem seqF_len (f : Int → Int) : ∀ (n : Nat) (a : Int), (seqF f a n).length = n
  | 0, _ => rfl
  | n + 1, a => by simp only [seqF, List.length_cons, seqF_len f n]
theorem rd_mid (pre rest : List Int) (x : Int) : rd (pre ++ x :: rest) (pre.length : Int) = x := by
  rw [Kit.rd_nat, List.getD_eq_getElem?_getD, List.getElem?_append_right (Nat.le_refl _)]
  simp
theorem markInt64S_l0 : ∀ (rest pre : List Int) (a : Int), 0 ≤ a → a + rest.length ≤ 4611686018427387904 → pre.length + rest.length ≤ 4611686018427387904 → Ev (fun k => laws_markInt64S.l0 k (pre ++ rest) a (pre.length : Int)) (a + rest.length, pre ++ seqF (fun x => x) a rest.length)
  | [], pre, a, h0, h1, h2 => by
    refine Kit.Ev.up ?_
    simp only [laws_markInt64S.l0]
    exact Kit.Ev.neg (by simp) (Kit.Ev.const (by simp [seqF]))
  | x :: rest, pre, a, h0, h1, h2 => by
    simp only [List.length_cons] at h1 h2
    refine Kit.Ev.up ?_
    simp only [laws_markInt64S.l0]
    refine Kit.Ev.pos (by simp only [List.length_append, List.length_cons]; omega) (Kit.Ev.pos (by omega) ?_)
    have el : wrap64 ((pre.length : Int) + 1) = ((pre ++ [a]).length : Int) := by rw [Kit.w64 (by omega) (by omega)]; simp
    have es : (pre ++ x :: rest).set (pre.length : Int).toNat (a) = (pre ++ [a]) ++ rest := by simp
    rw [es, el, Kit.w64 (x := a + 1) (by omega) (by omega)]
    refine (markInt64S_l0 rest (pre ++ [a]) (a + 1) (by omega) (by omega) (by rw [List.length_append]; simp only [List.length_cons, List.length_nil]; omega)).eq ?_
    refine Prod.ext ?_ ?_
    · simp only [List.length_cons]; omega
    · simp only [List.length_cons, seqF, List.append_assoc, List.cons_append, List.nil_append]
theorem markInt64S_ev (l : List Int) (a : Int) (h0 : 0 ≤ a) (h1 : a + l.length ≤ 4611686018427387904) : Ev (fun k => laws_markInt64S.f k l a) (a + l.length, seqF (fun x => x) a l.length) := by
  unfold laws_markInt64S.f
  exact markInt64S_l0 l [] a h0 h1 (by simp only [List.length_nil]; omega)
theorem heldInt64S_l0 : ∀ (n : Nat) (pre : List Int) (a : Int), 0 ≤ a → a + n ≤ 4611686018427387904 → pre.length + n ≤ 4611686018427387904 → Ev (fun k => laws_heldInt64S.l0 k (pre ++ seqF (fun x => x) a n) a (pre.length : Int)) (a + n)
  | 0, pre, a, h0, h1, h2 => by
    refine Kit.Ev.up ?_
    simp only [laws_heldInt64S.l0, seqF]
    exact Kit.Ev.neg (by simp) (Kit.Ev.const (by simp))
  | n + 1, pre, a, h0, h1, h2 => by
    refine Kit.Ev.up ?_
    simp only [laws_heldInt64S.l0, seqF]
    refine Kit.Ev.pos (by simp only [List.length_append, List.length_cons]; omega) (Kit.Ev.pos (by omega) (Kit.Ev.pos (rd_mid _ _ _) ?_))
    have el : wrap64 ((pre.length : Int) + 1) = ((pre ++ [a]).length : Int) := by rw [Kit.w64 (by omega) (by omega)]; simp
    have es : pre ++ (a) :: seqF (fun x => x) (a + 1) n = (pre ++ [a]) ++ seqF (fun x => x) (a + 1) n := by simp
    rw [es, el, Kit.w64 (x := a + 1) (by omega) (by omega)]
    exact (heldInt64S_l0 n (pre ++ [a]) (a + 1) (by omega) (by omega) (by rw [List.length_append]; simp only [List.length_cons, List.length_nil]; omega)).eq (by omega)
theorem heldInt64S_ev (n : Nat) (a : Int) (h0 : 0 ≤ a) (h1 : a + n ≤ 4611686018427387904) : Ev (fun k => laws_heldInt64S.f k (seqF (fun x => x) a n) a) (a + n) := by
  unfold laws_heldInt64S.f
  exact heldInt64S_l0 n [] a h0 h1 (by simp only [List.length_nil]; omega)
/-- Several answers, and one number of rounds for all. -/
theorem evs_both {α β : Type} {g : Nat → Option α} {h : Nat → Option β} {r : α} {s : β} (a : Ev g r) (b : Ev h s) : ∃ K, ∀ k, K ≤ k → g k = some r ∧ h k = some s := by
  obtain ⟨K, a⟩ := a
  obtain ⟨K', b⟩ := b
  exact ⟨max K K', fun k hk => ⟨a k (by omega), b k (by omega)⟩⟩
def Late (p : Nat → Prop) : Prop := ∃ K, ∀ k, K ≤ k → p k
theorem Late.of {α : Type} {g : Nat → Option α} {r : α} (h : Ev g r) : Late (fun k => g k = some r) := h
theorem Late.and {p q : Nat → Prop} (a : Late p) (b : Late q) : Late (fun k => p k ∧ q k) := by
  obtain ⟨K, a⟩ := a
  obtain ⟨K', b⟩ := b
  exact ⟨max K K', fun k hk => ⟨a k (by omega), b k (by omega)⟩⟩
theorem Late.ex {p : Nat → Prop} (a : Late p) : ∃ k, p k := by
  obtain ⟨K, a⟩ := a
  exact ⟨K, a K (Nat.le_refl _)⟩
def cellsE : List S65 → Nat
  | [] => 0
  | x :: xs => x.f0.length + 1 + cellsE xs
def seqE (a : Int) : List S65 → List S65
  | [] => []
  | x :: xs => ⟨seqF (fun x => x) a x.f0.length, a + x.f0.length⟩ :: seqE (a + x.f0.length + 1) xs
theorem cellsE_le : ∀ {l : List S65}, (∀ x ∈ l, x.f0.length ≤ 1048576) → cellsE l ≤ 1048577 * l.length
  | [], _ => Nat.le_refl _
  | x :: l, h => by
    have := h x (by simp)
    have := cellsE_le (l := l) (fun y hy => h y (by simp [hy]))
    simp only [cellsE, List.length_cons]; omega
theorem Fine.cells {l : List S65} (h : Fine l) : cellsE l ≤ 1099512676352 + 1048576 := by
  have := cellsE_le h.2
  have := h.1
  omega
theorem getD_midE (pre rest : List S65) (x z : S65) : (pre ++ x :: rest).getD ((pre.length : Int)).toNat z = x := by
  rw [Int.toNat_natCast, List.getD_eq_getElem?_getD, List.getElem?_append_right (Nat.le_refl _)]
  simp
theorem markE_l0 : ∀ (rest pre : List S65) (a : Int), 0 ≤ a → a + cellsE rest ≤ 4611686018427387904 → pre.length + rest.length ≤ 4611686018427387904 → Ev (fun k => laws_markEntryS.l0 k (pre ++ rest) a (pre.length : Int)) (a + cellsE rest, pre ++ seqE a rest)
  | [], pre, a, h0, h1, h2 => by
    refine Kit.Ev.up ?_
    simp only [laws_markEntryS.l0]
    exact Kit.Ev.neg (by simp) (Kit.Ev.const (by simp [seqE, cellsE]))
  | x :: rest, pre, a, h0, h1, h2 => by
    simp only [List.length_cons, cellsE] at h1 h2
    refine Kit.Ev.up ?_
    simp only [laws_markEntryS.l0]
    rw [getD_midE]
    refine Kit.Ev.pos (by simp only [List.length_append, List.length_cons]; omega) (Kit.Ev.pos (by omega) (Kit.Ev.then (markInt64S_ev x.f0 a h0 (by omega)) ?_))
    simp only
    have el : wrap64 ((pre.length : Int) + 1) = ((pre ++ [(⟨seqF (fun x => x) a x.f0.length, a + x.f0.length⟩ : S65)]).length : Int) := by rw [Kit.w64 (by omega) (by omega)]; simp
    have es : (pre ++ x :: rest).set (pre.length : Int).toNat (⟨seqF (fun x => x) a x.f0.length, a + x.f0.length⟩ : S65) = (pre ++ [⟨seqF (fun x => x) a x.f0.length, a + x.f0.length⟩]) ++ rest := by simp
    rw [es, el, Kit.w64 (x := a + x.f0.length + 1) (by omega) (by omega)]
    refine (markE_l0 rest (pre ++ [⟨seqF (fun x => x) a x.f0.length, a + x.f0.length⟩]) (a + x.f0.length + 1) (by omega) (by omega) (by rw [List.length_append]; simp only [List.length_cons, List.length_nil]; omega)).eq ?_
    refine Prod.ext ?_ ?_
    · simp only [cellsE]; omega
    · simp only [seqE, List.append_assoc, List.cons_append, List.nil_append]
theorem markE_ev (l : List S65) (a : Int) (h0 : 0 ≤ a) (h1 : a + cellsE l ≤ 4611686018427387904) (h2 : l.length ≤ 4611686018427387904) : Ev (fun k => laws_markEntryS.f k l a) (a + cellsE l, seqE a l) := by
  unfold laws_markEntryS.f
  exact markE_l0 l [] a h0 h1 (by simp only [List.length_nil]; omega)
theorem heldE_l0 : ∀ (rest pre : List S65) (a : Int), 0 ≤ a → a + cellsE rest ≤ 4611686018427387904 → pre.length + rest.length ≤ 4611686018427387904 → Ev (fun k => laws_heldEntryS.l0 k (pre ++ seqE a rest) a (pre.length : Int)) (a + cellsE rest)
  | [], pre, a, h0, h1, h2 => by
    refine Kit.Ev.up ?_
    simp only [laws_heldEntryS.l0, seqE]
    exact Kit.Ev.neg (by simp) (Kit.Ev.const (by simp [cellsE]))
  | x :: rest, pre, a, h0, h1, h2 => by
    simp only [List.length_cons, cellsE] at h1 h2
    refine Kit.Ev.up ?_
    simp only [laws_heldEntryS.l0, seqE, rd_T65, getD_midE]
    refine Kit.Ev.pos (by simp only [List.length_append, List.length_cons]; omega) (Kit.Ev.pos (by omega) (Kit.Ev.then (heldInt64S_ev x.f0.length a h0 (by omega)) (Kit.Ev.neg (by omega) (Kit.Ev.pos rfl ?_))))
    have el : wrap64 ((pre.length : Int) + 1) = ((pre ++ [(⟨seqF (fun x => x) a x.f0.length, a + x.f0.length⟩ : S65)]).length : Int) := by rw [Kit.w64 (by omega) (by omega)]; simp
    have es : pre ++ (⟨seqF (fun x => x) a x.f0.length, a + x.f0.length⟩ : S65) :: seqE (a + x.f0.length + 1) rest = (pre ++ [⟨seqF (fun x => x) a x.f0.length, a + x.f0.length⟩]) ++ seqE (a + x.f0.length + 1) rest := by simp
    rw [es, el, Kit.w64 (x := a + x.f0.length + 1) (by omega) (by omega)]
    refine (heldE_l0 rest (pre ++ [⟨seqF (fun x => x) a x.f0.length, a + x.f0.length⟩]) (a + x.f0.length + 1) (by omega) (by omega) (by rw [List.length_append]; simp only [List.length_cons, List.length_nil]; omega)).eq ?_
    simp only [cellsE]; omega
theorem heldE_ev (l : List S65) (a : Int) (h0 : 0 ≤ a) (h1 : a + cellsE l ≤ 4611686018427387904) (h2 : l.length ≤ 4611686018427387904) : Ev (fun k => laws_heldEntryS.f k (seqE a l) a) (a + cellsE l) := by
  unfold laws_heldEntryS.f
  exact heldE_l0 l [] a h0 h1 (by simp only [List.length_nil]; omega)
theorem heldSet_ev (x : Int) (l : List S65) (a : Int) (h0 : 0 ≤ a) (h1 : a + cellsE l ≤ 4611686018427387904) (h2 : l.length ≤ 4611686018427387904) : Ev (fun k => laws_heldSetResult.f k x (seqE a l) a) (a + cellsE l) := by
  unfold laws_heldSetResult.f
  exact Kit.Ev.then (heldE_ev l a h0 h1 h2) (Kit.Ev.neg (by omega) (Kit.Ev.const rfl))
theorem markSet_ev (x : Int) (l : List S65) (a : Int) (h0 : 0 ≤ a) (h1 : a + cellsE l ≤ 4611686018427387904) (h2 : l.length ≤ 4611686018427387904) : Ev (fun k => laws_markSetResult.f k x l a) (a + cellsE l, seqE a l) := markE_ev l a h0 h1 h2
theorem eqEntryS_l0 (xs : List S65) (hn : xs.length ≤ 9223372036854775807) (hr : ∀ x ∈ xs, x.f0.length ≤ 9223372036854775807) : ∀ (d i : Nat), i + d = xs.length → Ev (fun k => laws_eqEntryS.l0 k xs xs (i : Int)) true := by
  intro d
  induction d with
  | zero =>
    intro i hd
    refine Kit.Ev.up ?_
    simp only [laws_eqEntryS.l0]
    exact Kit.Ev.neg (by omega) (Kit.Ev.const rfl)
  | succ d ih =>
    intro i hd
    refine Kit.Ev.up ?_
    simp only [laws_eqEntryS.l0, laws_eqEntry.f]
    refine Kit.Ev.pos (by omega) (Kit.Ev.pos (by omega) (Kit.Ev.pos (by omega) ?_))
    have hm := rdE_mem (xs := xs) (i := i) (by omega)
    refine Kit.Ev.then (a := true) (Kit.Ev.then (eqInt64S_refl _ (hr _ hm)) (Kit.Ev.pos rfl (Kit.Ev.pos (by trivial) (Kit.Ev.const rfl)))) ?_
    refine Kit.Ev.pos rfl ?_
    rw [w64n (n := xs.length) (by omega) hn]
    exact ih (i + 1) (by omega)
theorem eqEntryS_refl (xs : List S65) (hn : xs.length ≤ 9223372036854775807) (hr : ∀ x ∈ xs, x.f0.length ≤ 9223372036854775807) : Ev (fun k => laws_eqEntryS.f k xs xs) true := by
  unfold laws_eqEntryS.f
  exact Kit.Ev.pos rfl (eqEntryS_l0 xs hn hr xs.length 0 (by omega))
theorem eqSetR_refl (x : Int) (l : List S65) (hx : Fine l) : Ev (fun k => laws_eqSetResult.f k x l x l) true := by
  unfold laws_eqSetResult.f
  exact Kit.Ev.pos rfl (Kit.Ev.then (eqEntryS_refl l hx.n hx.r) (Kit.Ev.pos rfl (Kit.Ev.const rfl)))
theorem rdLE_at {xs : List S63} {i : Nat} (h : i < xs.length) : rd_T63 xs (i : Int) = xs[i] := by simp [rd_T63, h]
theorem rdLE_drop {xs : List S63} {i : Nat} (h : i < xs.length) : xs.drop i = rd_T63 xs (i : Int) :: xs.drop (i + 1) := by
  rw [rdLE_at h]; exact List.drop_eq_getElem_cons h
theorem rdLE_mem {xs : List S63} {i : Nat} (h : i < xs.length) : rd_T63 xs (i : Int) ∈ xs := by
  rw [rdLE_at h]; exact List.getElem_mem h
def conv (x : S63) : S65 := ⟨x.f0, x.f1⟩
def szGo : Int → List S63 → Int
  | t, [] => t
  | t, x :: xs => if t - (x.f0.length : Int) < 0 then -1 else szGo (t - (x.f0.length : Int)) xs
def szE (t : Int) (l : List S63) : Int := if t - (l.length : Int) < 0 then -1 else szGo (t - (l.length : Int)) l
theorem szGo_le : ∀ (l : List S63) (t : Int), 0 ≤ szGo t l → szGo t l ≤ t ∧ ∀ x ∈ l, (x.f0.length : Int) ≤ t
  | [], t, h => ⟨Int.le_refl _, by simp⟩
  | x :: xs, t, h => by
    unfold szGo at h ⊢
    by_cases hc : t - (x.f0.length : Int) < 0
    · rw [if_pos hc] at h; omega
    · rw [if_neg hc] at h ⊢
      have ih := szGo_le xs _ h
      refine ⟨by omega, fun y hy => ?_⟩
      rcases List.mem_cons.1 hy with rfl | hy
      · omega
      · have := ih.2 y hy; omega
theorem szE_le {t : Int} {l : List S63} (h : 0 ≤ szE t l) : (l.length : Int) ≤ t ∧ szE t l ≤ t ∧ ∀ x ∈ l, (x.f0.length : Int) ≤ t := by
  unfold szE at h ⊢
  by_cases hc : t - (l.length : Int) < 0
  · rw [if_pos hc] at h; omega
  · rw [if_neg hc] at h ⊢
    have := szGo_le l _ h
    refine ⟨by omega, by omega, fun x hx => ?_⟩
    have := this.2 x hx
    omega
theorem szInt_eq {n : Nat} {l : List Int} {t : Int} (h0 : 0 ≤ t) (h1 : t ≤ 1048576) (hn : l.length = n) (hl : n ≤ 9223372036854775807) : laws_szInt64S.f l t = some (if t - (n : Int) < 0 then -1 else t - (n : Int)) := by
  unfold laws_szInt64S.f
  rw [hn, Kit.w64 (by omega) (by omega)]
  by_cases h : t - (n : Int) < 0
  · rw [if_pos h, if_pos h]
  · rw [if_neg h, if_neg h]
theorem szEntry_eq {l : List Int} {w t : Int} (h0 : 0 ≤ t) (h1 : t ≤ 1048576) (hl : l.length ≤ 9223372036854775807) : laws_szEntry.f l w t = some (if t - (l.length : Int) < 0 then -1 else t - (l.length : Int)) := by
  unfold laws_szEntry.f
  rw [szInt_eq h0 h1 rfl hl]
  simp only [Option.bind_some]
  by_cases h : t - (l.length : Int) < 0
  · rw [if_pos h, if_pos (by omega)]
  · rw [if_neg h, if_neg h]
theorem szEntryS_l0 (xs : List S63) (hn : xs.length ≤ 9223372036854775807) (hr : ∀ x ∈ xs, x.f0.length ≤ 9223372036854775807) : ∀ (d i : Nat) (t : Int), i + d = xs.length → 0 ≤ t → t ≤ 1048576 → Ev (fun k => laws_szEntryS.l0 k xs t (i : Int)) (szGo t (xs.drop i)) := by
  intro d
  induction d with
  | zero =>
    intro i t hd h0 h1
    refine Kit.Ev.up ?_
    simp only [laws_szEntryS.l0]
    refine Kit.Ev.neg (by omega) (Kit.Ev.const ?_)
    rw [List.drop_eq_nil_of_le (by omega)]; rfl
  | succ d ih =>
    intro i t hd h0 h1
    refine Kit.Ev.up ?_
    simp only [laws_szEntryS.l0]
    refine Kit.Ev.pos (by omega) (Kit.Ev.pos (by omega) ?_)
    rw [rdLE_drop (xs := xs) (i := i) (by omega), w64n (n := xs.length) (by omega) hn, szEntry_eq h0 h1 (hr _ (rdLE_mem (by omega)))]
    simp only [Option.bind_some, szGo]
    by_cases h : t - ((rd_T63 xs (i : Int)).f0.length : Int) < 0
    · rw [if_pos h]; exact Kit.Ev.pos (by omega) (Kit.Ev.const (by rw [if_pos h]))
    · rw [if_neg h, if_neg h]
      exact Kit.Ev.neg h (ih (i + 1) _ (by omega) (by omega) (by omega))
theorem szEntryS_ev (xs : List S63) (hn : xs.length ≤ 9223372036854775807) (hr : ∀ x ∈ xs, x.f0.length ≤ 9223372036854775807) {t : Int} (h0 : 0 ≤ t) (h1 : t ≤ 1048576) : Ev (fun k => laws_szEntryS.f k xs t) (szE t xs) := by
  unfold laws_szEntryS.f szE
  rw [Kit.w64 (by omega) (by omega)]
  by_cases h : t - (xs.length : Int) < 0
  · rw [if_pos h]; exact Kit.Ev.pos h (Kit.Ev.const rfl)
  · rw [if_neg h]; exact Kit.Ev.neg h (szEntryS_l0 xs hn hr xs.length 0 _ (by omega) (by omega) (by omega))
theorem toEntryS_l0 (xs : List S63) (hn : xs.length ≤ 9223372036854775807) (hr : ∀ x ∈ xs, x.f0.length ≤ 1048576) : ∀ (d i : Nat) (ys : List S65), i + d = xs.length → ys.length = xs.length → (∀ j, j < i → ys[j]? = (xs.map conv)[j]?) → Ev (fun k => laws_toEntryS.l0 k xs ys (i : Int)) (xs.map conv) := by
  intro d
  induction d with
  | zero =>
    intro i ys hd hl he
    refine Kit.Ev.up ?_
    simp only [laws_toEntryS.l0]
    refine Kit.Ev.neg (by omega) (Kit.Ev.const ?_)
    congr 1
    apply List.ext_getElem?
    intro j
    by_cases hj : j < i
    · exact he j hj
    · rw [List.getElem?_eq_none (by omega), List.getElem?_eq_none (by rw [List.length_map]; omega)]
  | succ d ih =>
    intro i ys hd hl he
    refine Kit.Ev.up ?_
    simp only [laws_toEntryS.l0, laws_toEntry.f]
    refine Kit.Ev.pos (by omega) (Kit.Ev.pos (by omega) ?_)
    have hm := rdLE_mem (xs := xs) (i := i) (by omega)
    refine Kit.Ev.then (a := ((rd_T63 xs (i : Int)).f0, (rd_T63 xs (i : Int)).f1)) (Kit.Ev.then (toInt64S_ev _ (hr _ hm)) (Kit.Ev.const rfl)) ?_
    refine Kit.Ev.pos (by omega) ?_
    rw [w64n (n := xs.length) (by omega) hn, Int.toNat_natCast]
    refine ih (i + 1) _ (by omega) (by simpa using hl) (fun j hj => ?_)
    rw [List.getElem?_set]
    by_cases e : i = j
    · subst e
      rw [if_pos rfl, if_pos (by omega), List.getElem?_map, List.getElem?_eq_getElem (by omega), rdLE_at (by omega)]
      rfl
    · rw [if_neg e]
      exact he j (by omega)
theorem toEntryS_ev (xs : List S63) (hn : xs.length ≤ 1048576) (hr : ∀ x ∈ xs, x.f0.length ≤ 1048576) : Ev (fun k => laws_toEntryS.f k xs) (xs.map conv) := by
  unfold laws_toEntryS.f
  refine Kit.Ev.pos (by omega) (Kit.Ev.pos (by omega) ?_)
  exact toEntryS_l0 xs (by omega) hr xs.length 0 _ (by omega) (by simp) (fun j hj => by omega)
/-- What a law over one list of entries begins with: too much, or what is laid is as it came in. -/
theorem input_of {l : List S63} (hl : (fun l : List S63 => l.length ≤ maxLen ∧ ∀ y ∈ l, (fun x : S63 => (fun l : List Int => l.length ≤ maxLen ∧ ∀ y ∈ l, (fun x : Int => (Lit.int .i64 x).wf = true) y) x.f0 ∧ (fun x : Int => (Lit.int .i64 x).wf = true) x.f1) y) l) {t : Int} (h0 : 0 ≤ t) (h1 : t ≤ 1048576) :
    Ev (fun k => laws_szEntryS.f k l t) (szE t l) ∧ (¬ szE t l < 0 → szE t l ≤ 1048576 ∧ 0 ≤ szE t l ∧ Fine (l.map conv) ∧ Ev (fun k => laws_toEntryS.f k l) (l.map conv)) := by
  have hm : ∀ n : Nat, n ≤ maxLen → n ≤ 9223372036854775807 := fun n h => by simp only [maxLen] at h; omega
  refine ⟨szEntryS_ev l (hm _ hl.1) (fun x hx => hm _ (hl.2 x hx).1.1) h0 h1, fun h => ?_⟩
  have hb := szE_le (t := t) (l := l) (by omega)
  have hr : ∀ x ∈ l, x.f0.length ≤ 1048576 := fun x hx => by have := hb.2.2 x hx; omega
  refine ⟨by omega, by omega, ⟨by rw [List.length_map]; omega, fun x hx => ?_⟩, toEntryS_ev l (by omega) hr⟩
  obtain ⟨y, hy, rfl⟩ := List.mem_map.1 hx
  exact hr y hy
theorem FnExactFilterSet : laws_FnExactFilterSet.Pure := by
  intro l col t u hl _ _ _ _
  unfold laws_FnExactFilterSet.ok
  obtain ⟨hz, hin⟩ := input_of hl (t := 1048576) (by omega) (by omega)
  by_cases hc : szE 1048576 l < 0
  · obtain ⟨k, e⟩ := (Late.of hz).ex
    exact ⟨k, .inl ⟨_, e, hc⟩⟩
  obtain ⟨_, h0, hx, ht⟩ := hin hc
  have hr := filterF_fine col t u hx
  have c1 := hx.cells
  have c2 := hr.cells
  have n1 := hx.1
  have n2 := hr.1
  obtain ⟨k, e0, e1, e2, e3, e4, e5, e6, e7, e8⟩ := ((Late.of hz).and ((Late.of ht).and ((Late.of (specFilter_ev col t u _ hx)).and ((Late.of (implFilter_ev col t u _ hx)).and ((Late.of (eqSetR_refl (filterF col t u (l.map conv)).1 _ hr)).and ((Late.of (eqEntryS_refl _ hx.n hx.r)).and ((Late.of (markE_ev (l.map conv) 1 (by omega) (by omega) (by omega))).and ((Late.of (markSet_ev (filterF col t u (l.map conv)).1 (filterF col t u (l.map conv)).2 1 (by omega) (by omega) (by omega))).and (Late.of (heldSet_ev (filterF col t u (l.map conv)).1 (filterF col t u (l.map conv)).2 1 (by omega) (by omega) (by omega))))))))))).ex
  exact ⟨k, .inr ⟨_, _, _, _, _, _, _, _, e0, e1, e2, e3, e4, e5, e6, e7, e8, by omega, by omega, by omega⟩⟩

end Go.Proofs.Ythnbghcfjkmpoaa.Pure
