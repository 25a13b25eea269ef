/- The law FnExactInputsFault answers true for every list of nodes and every list of sets. -/
import Derived.Test.YteibdjkfkcckkaaKit
import Derived.Test.YteibdjkfkcckkaaPFnExactInputsFaultx17
namespace Go.Proofs.Yteibdjkfkcckkaa.Pure
open Go.RowKit Go.Proofs.Yteibdjkfkcckkaa.PFnExactInputsFault Go.Proofs.YteibdjkfkcckkaaW.PrintWords Go.Proofs.YteibdjkfkcckkaaW.PrintLast Go.Proofs.Yteibdjkfkcckkaa
set_option linter.unusedSimpArgs false
set_option linter.unusedVariables false

theorem w64n {i n : Nat} (h : i < n) (hn : n ≤ 9223372036854775807) : wrap64 ((i : Int) + 1) = ((i + 1 : Nat) : Int) := by
  rw [Kit.w64 (by omega) (by omega)]; rfl
theorem rd_drop {xs : List Int} {i : Nat} (h : i < xs.length) : xs.drop i = rd xs (i : Int) :: xs.drop (i + 1) := by
  rw [Kit.rd_at h]; exact List.drop_eq_getElem_cons h
theorem toInt64S_l0 (xs : List Int) (hn : xs.length ≤ 9223372036854775807) : ∀ (d i : Nat) (ys : List Int), i + d = xs.length → ys.length = xs.length → (∀ j, j < i → ys[j]? = xs[j]?) → Ev (fun k => laws_toInt64S.l0 k xs ys (i : Int)) xs := by
  intro d
  induction d with
  | zero =>
    intro i ys hd hl he
    refine Kit.Ev.up ?_
    simp only [laws_toInt64S.l0]
    refine Kit.Ev.neg (by omega) (Kit.Ev.const ?_)
    congr 1
    apply List.ext_getElem?
    intro j
    by_cases hj : j < i
    · exact he j hj
    · rw [List.getElem?_eq_none (by omega), List.getElem?_eq_none (by omega)]
  | succ d ih =>
    intro i ys hd hl he
    refine Kit.Ev.up ?_
    simp only [laws_toInt64S.l0]
    refine Kit.Ev.pos (by omega) (Kit.Ev.pos (by omega) (Kit.Ev.pos (by omega) ?_))
    rw [w64n (n := xs.length) (by omega) hn, Int.toNat_natCast]
    refine ih (i + 1) _ (by omega) (by simpa using hl) (fun j hj => ?_)
    rw [List.getElem?_set]
    by_cases e : i = j
    · subst e
      rw [if_pos rfl, if_pos (by omega), Kit.rd_at (by omega), List.getElem?_eq_getElem (by omega)]
    · rw [if_neg e]
      exact he j (by omega)
theorem toInt64S_ev (xs : List Int) (hn : xs.length ≤ 1048576) : Ev (fun k => laws_toInt64S.f k xs) xs := by
  unfold laws_toInt64S.f
  refine Kit.Ev.pos (by omega) (Kit.Ev.pos (by omega) ?_)
  exact toInt64S_l0 xs (by omega) xs.length 0 _ (by omega) (by simp) (fun j hj => by omega)
theorem eqInt64S_l0 (xs ys : List Int) (hn : xs.length ≤ 9223372036854775807) (hl : xs.length = ys.length) : ∀ (d i : Nat), i + d = xs.length → Ev (fun k => laws_eqInt64S.l0 k xs ys (i : Int)) (decide (xs.drop i = ys.drop i)) := by
  intro d
  induction d with
  | zero =>
    intro i hd
    refine Kit.Ev.up ?_
    simp only [laws_eqInt64S.l0]
    refine Kit.Ev.neg (by omega) (Kit.Ev.const ?_)
    rw [List.drop_eq_nil_of_le (by omega), List.drop_eq_nil_of_le (by omega)]; simp
  | succ d ih =>
    intro i hd
    refine Kit.Ev.up ?_
    simp only [laws_eqInt64S.l0]
    refine Kit.Ev.pos (by omega) (Kit.Ev.pos (by omega) (Kit.Ev.pos (by omega) ?_))
    rw [rd_drop (xs := xs) (i := i) (by omega), rd_drop (xs := ys) (i := i) (by omega), w64n (n := xs.length) (by omega) hn]
    refine Kit.Ev.ite (fun h => ?_) (fun h => Kit.Ev.const ?_)
    · exact (ih (i + 1) (by omega)).eq (by rw [h]; simp)
    · simp [h]
theorem eqInt64S_ev (xs ys : List Int) (hn : xs.length ≤ 9223372036854775807) : Ev (fun k => laws_eqInt64S.f k xs ys) (decide (xs = ys)) := by
  unfold laws_eqInt64S.f
  refine Kit.Ev.ite (fun h => ?_) (fun h => Kit.Ev.const ?_)
  · exact (eqInt64S_l0 xs ys hn (by omega) xs.length 0 (by omega)).eq (by simp)
  · have : xs ≠ ys := fun e => h (by rw [e])
    simp [this]
theorem eqInt64S_refl (xs : List Int) (hn : xs.length ≤ 9223372036854775807) : Ev (fun k => laws_eqInt64S.f k xs xs) true := (eqInt64S_ev xs xs hn).eq (by simp)
theorem specIn_eq (a b c : Int) : spec_l1In.f a b c = some (decide (b ≤ a ∧ a ≤ c)) := by
  unfold spec_l1In.f
  by_cases h : a ≥ b
  · rw [if_pos h]; simp [show b ≤ a from h]
  · rw [if_neg h]; simp; intro h'; omega
theorem implIn_eq (a b c : Int) : impl_in.f a b c = some (decide (b ≤ a ∧ a ≤ c)) := by
  unfold impl_in.f
  by_cases h : a ≥ b
  · rw [if_pos h]; simp [show b ≤ a from h]
  · rw [if_neg h]; simp; intro h'; omega
def isW (x : Int) : Bool := decide (-1000000000000 ≤ x ∧ x ≤ 1000000000000)
theorem isW_iff {x : Int} : isW x = true ↔ -1000000000000 ≤ x ∧ x ≤ 1000000000000 := by simp [isW]
def addW (a b : Int) : Int × Int := if isW a = true ∧ isW b = true then (if isW (a + b) = true then (0, a + b) else (8, 0)) else (3, 0)
theorem addW_comm (a b : Int) : addW a b = addW b a := by
  unfold addW
  rw [Int.add_comm b a]; simp only [and_comm]
def mulP (a b : Int) : Int × Bool := if (a * b).natAbs ≤ 1000000000000 then (a * b, true) else (0, false)
theorem mulP_comm (a b : Int) : mulP a b = mulP b a := by
  unfold mulP
  rw [Int.mul_comm b a]
def mulW (a b : Int) : Int × Int := if isW a = true ∧ isW b = true then (if (mulP a b).2 = true then (0, (mulP a b).1) else (8, 0)) else (3, 0)
theorem mulW_comm (a b : Int) : mulW a b = mulW b a := by
  unfold mulW
  rw [mulP_comm b a]; simp only [and_comm]
theorem specWeight_eq (a : Int) : spec_l1Weight.f a = some (isW a) := by
  unfold spec_l1Weight.f
  rw [specIn_eq]; rfl
theorem implWeight_eq (a : Int) : impl_isWeight.f a = some (isW a) := by
  unfold impl_isWeight.f
  rw [implIn_eq]; rfl
def inC (x : Int) : Bool := decide (-1000000000 ≤ x ∧ x ≤ 1000000000)
def rowF (xs : List Int) : Int := if 4 < xs.length then 2 else if xs.all inC = true then 0 else 3
theorem specRow_l0 (xs : List Int) (hn : xs.length ≤ 9223372036854775807) : ∀ (d i : Nat), i + d = xs.length → Ev (fun k => spec_RowFault.l0 k xs (i : Int)) (if (xs.drop i).all inC = true then 0 else 3) := by
  intro d
  induction d with
  | zero =>
    intro i hd
    refine Kit.Ev.up ?_
    simp only [spec_RowFault.l0]
    refine Kit.Ev.neg (by omega) (Kit.Ev.const ?_)
    rw [List.drop_eq_nil_of_le (by omega)]; simp
  | succ d ih =>
    intro i hd
    refine Kit.Ev.up ?_
    simp only [spec_RowFault.l0]
    refine Kit.Ev.pos (by omega) (Kit.Ev.pos (by omega) ?_)
    rw [specIn_eq]
    simp only [Option.bind_some]
    rw [rd_drop (xs := xs) (i := i) (by omega), w64n (n := xs.length) (by omega) hn]
    by_cases h : inC (rd xs (i : Int)) = true
    · refine Kit.Ev.pos h ((ih (i + 1) (by omega)).eq ?_)
      simp [h]
    · refine Kit.Ev.neg h (Kit.Ev.const ?_)
      simp [h]
theorem specRow_ev (xs : List Int) (hn : xs.length ≤ 9223372036854775807) : Ev (fun k => spec_RowFault.f k xs) (rowF xs) := by
  unfold spec_RowFault.f
  refine Kit.Ev.ite (fun h => Kit.Ev.const ?_) (fun h => ?_)
  · simp [rowF, show 4 < xs.length by omega]
  · exact (specRow_l0 xs hn xs.length 0 (by omega)).eq (by simp [rowF, show ¬ 4 < xs.length by omega])
theorem implRow_l0 (xs : List Int) (hn : xs.length ≤ 9223372036854775807) : ∀ (d i : Nat), i + d = xs.length → Ev (fun k => impl_RowFault.l0 k xs (xs.length : Int) (i : Int)) (if (xs.drop i).all inC = true then 0 else 3) := by
  intro d
  induction d with
  | zero =>
    intro i hd
    refine Kit.Ev.up ?_
    simp only [impl_RowFault.l0]
    refine Kit.Ev.neg (by omega) (Kit.Ev.const ?_)
    rw [List.drop_eq_nil_of_le (by omega)]; simp
  | succ d ih =>
    intro i hd
    refine Kit.Ev.up ?_
    simp only [impl_RowFault.l0]
    refine Kit.Ev.pos (by omega) (Kit.Ev.pos (by omega) (Kit.Ev.pos (by omega) ?_))
    rw [implIn_eq]
    simp only [Option.bind_some]
    rw [rd_drop (xs := xs) (i := i) (by omega), w64n (n := xs.length) (by omega) hn]
    by_cases h : inC (rd xs (i : Int)) = true
    · refine Kit.Ev.pos h ((ih (i + 1) (by omega)).eq ?_)
      simp [h]
    · refine Kit.Ev.neg h (Kit.Ev.const ?_)
      simp [h]
theorem implRow_ev (xs : List Int) (hn : xs.length ≤ 9223372036854775807) : Ev (fun k => impl_RowFault.f k xs) (rowF xs) := by
  unfold impl_RowFault.f
  refine Kit.Ev.ite (fun h => Kit.Ev.const ?_) (fun h => ?_)
  · simp [rowF, show 4 < xs.length by omega]
  · exact (implRow_l0 xs hn xs.length 0 (by omega)).eq (by simp [rowF, show ¬ 4 < xs.length by omega])
def cmpR : List Int → List Int → Int
  | [], [] => 0
  | [], _ :: _ => -1
  | _ :: _, [] => 1
  | a :: xs, b :: ys => if a < b then -1 else if b < a then 1 else cmpR xs ys
theorem cmpR_len : ∀ (xs ys : List Int), xs = [] ∨ ys = [] → cmpR xs ys = if xs.length < ys.length then -1 else if ys.length < xs.length then 1 else 0
  | [], [], _ => rfl
  | [], _ :: _, _ => by simp [cmpR]
  | _ :: _, [], _ => by simp [cmpR]
  | _ :: _, _ :: _, h => by simp at h
theorem specCmp_l0 (xs ys : List Int) (hn : xs.length ≤ 9223372036854775807) : ∀ (d i : Nat), i + d = min xs.length ys.length → Ev (fun k => spec_CompareRows.l0 k xs ys (i : Int)) (cmpR (xs.drop i) (ys.drop i)) := by
  intro d
  induction d with
  | zero =>
    intro i hd
    refine Kit.Ev.up (Kit.Ev.up ?_)
    simp only [spec_CompareRows.l0, spec_CompareRows.j1]
    have hend : Ev (fun _ : Nat => if (xs.length : Int) < (ys.length : Int) then some (-1 : Int) else if (xs.length : Int) > (ys.length : Int) then some 1 else some 0) (cmpR (xs.drop i) (ys.drop i)) := by
      refine Kit.Ev.const ?_
      rw [cmpR_len _ _ (by
        by_cases h : i = xs.length
        · exact .inl (List.drop_eq_nil_of_le (by omega))
        · exact .inr (List.drop_eq_nil_of_le (by omega)))]
      simp only [List.length_drop]
      by_cases h1 : xs.length < ys.length
      · rw [if_pos (by omega), if_pos (by omega)]
      · by_cases h2 : ys.length < xs.length
        · rw [if_neg (by omega), if_pos (by omega), if_neg (by omega), if_pos (by omega)]
        · rw [if_neg (by omega), if_neg (by omega), if_neg (by omega), if_neg (by omega)]
    refine Kit.Ev.ite (fun h => ?_) (fun h => ?_)
    · refine Kit.Ev.neg (by simp; omega) hend
    · exact Kit.Ev.neg (by simp) hend
  | succ d ih =>
    intro i hd
    refine Kit.Ev.up (Kit.Ev.up ?_)
    simp only [spec_CompareRows.l0, spec_CompareRows.j1]
    refine Kit.Ev.pos (by omega) (Kit.Ev.pos (by simp; omega) (Kit.Ev.pos (by omega) (Kit.Ev.pos (by omega) (Kit.Ev.pos (by omega) ?_))))
    rw [rd_drop (xs := xs) (i := i) (by omega), rd_drop (xs := ys) (i := i) (by omega), w64n (n := xs.length) (by omega) hn]
    simp only [cmpR]
    refine Kit.Ev.ite2 (fun _ => Kit.Ev.const rfl) (fun _ => ?_)
    exact Kit.Ev.ite2 (fun _ => Kit.Ev.const rfl) (fun _ => ih (i + 1) (by omega))
theorem specCmp_ev (xs ys : List Int) (hn : xs.length ≤ 9223372036854775807) : Ev (fun k => spec_CompareRows.f k xs ys) (cmpR xs ys) := specCmp_l0 xs ys hn _ 0 (Nat.zero_add _)
theorem cmp64_eq (a b : Int) : cmp_Compare_int64.f a b = some (if a < b then -1 else if b < a then 1 else 0) := by
  unfold cmp_Compare_int64.f cmp_isNaN_int64.f
  simp only [bne_self_eq_false, Option.bind_some, Bool.false_eq_true, if_false]
  by_cases h1 : a < b
  · simp [h1]
  · by_cases h2 : b < a <;> simp [h1, h2]
theorem cmpI_eq (a b : Int) : cmp_Compare_int.f a b = some (if a < b then -1 else if b < a then 1 else 0) := by
  unfold cmp_Compare_int.f cmp_isNaN_int.f
  simp only [bne_self_eq_false, Option.bind_some, Bool.false_eq_true, if_false]
  by_cases h1 : a < b
  · simp [h1]
  · by_cases h2 : b < a <;> simp [h1, h2]
theorem implCmp_l0 (xs ys : List Int) (hn : xs.length ≤ 9223372036854775807) : ∀ (d i : Nat), i + d = min xs.length ys.length → Ev (fun k => impl_CompareRows.l0 k xs ys ((min xs.length ys.length : Nat) : Int) (i : Int)) (cmpR (xs.drop i) (ys.drop i)) := by
  intro d
  induction d with
  | zero =>
    intro i hd
    refine Kit.Ev.up ?_
    simp only [impl_CompareRows.l0]
    refine Kit.Ev.neg (by omega) ?_
    rw [cmpI_eq]
    refine Kit.Ev.const ?_
    rw [cmpR_len _ _ (by
      by_cases h : i = xs.length
      · exact .inl (List.drop_eq_nil_of_le (by omega))
      · exact .inr (List.drop_eq_nil_of_le (by omega)))]
    simp only [List.length_drop, Option.bind_some]
    by_cases h1 : xs.length < ys.length
    · rw [if_pos (by omega), if_pos (by omega)]
    · by_cases h2 : ys.length < xs.length
      · rw [if_neg (by omega), if_pos (by omega), if_neg (by omega), if_pos (by omega)]
      · rw [if_neg (by omega), if_neg (by omega), if_neg (by omega), if_neg (by omega)]
  | succ d ih =>
    intro i hd
    refine Kit.Ev.up ?_
    simp only [impl_CompareRows.l0]
    refine Kit.Ev.pos (by omega) (Kit.Ev.pos (by omega) (Kit.Ev.pos (by omega) (Kit.Ev.pos (by omega) ?_)))
    rw [rd_drop (xs := xs) (i := i) (by omega), rd_drop (xs := ys) (i := i) (by omega), w64n (n := xs.length) (by omega) hn, cmp64_eq]
    simp only [cmpR, Option.bind_some]
    by_cases h1 : rd xs (i : Int) < rd ys (i : Int)
    · simp only [h1, if_true]; exact Kit.Ev.const rfl
    · by_cases h2 : rd ys (i : Int) < rd xs (i : Int)
      · simp only [h1, h2, if_true, if_false]; exact Kit.Ev.const rfl
      · simp only [h1, h2, if_true, if_false]; exact ih (i + 1) (by omega)
theorem implCmp_ev (xs ys : List Int) (hn : xs.length ≤ 9223372036854775807) : Ev (fun k => impl_CompareRows.f k xs ys) (cmpR xs ys) := by
  unfold impl_CompareRows.f
  refine Kit.Ev.ite (fun h => ?_) (fun h => ?_)
  · have := implCmp_l0 xs ys hn _ 0 (Nat.zero_add _)
    rwa [Nat.min_eq_right (by omega)] at this
  · have := implCmp_l0 xs ys hn _ 0 (Nat.zero_add _)
    rwa [Nat.min_eq_left (by omega)] at this
theorem slicesEq_l0 (xs ys : List Int) (hn : xs.length ≤ 9223372036854775807) (hl : xs.length = ys.length) : ∀ (d i : Nat), i + d = xs.length → Ev (fun k => slices_Equal_int64_int64.l0 k xs ys (xs.length : Int) (i : Int)) (decide (xs.drop i = ys.drop i)) := by
  intro d
  induction d with
  | zero =>
    intro i hd
    refine Kit.Ev.up ?_
    simp only [slices_Equal_int64_int64.l0]
    refine Kit.Ev.neg (by omega) (Kit.Ev.const ?_)
    rw [List.drop_eq_nil_of_le (by omega), List.drop_eq_nil_of_le (by omega)]; simp
  | succ d ih =>
    intro i hd
    refine Kit.Ev.up ?_
    simp only [slices_Equal_int64_int64.l0]
    refine Kit.Ev.pos (by omega) (Kit.Ev.pos (by omega) (Kit.Ev.pos (by omega) (Kit.Ev.pos (by omega) ?_)))
    rw [rd_drop (xs := xs) (i := i) (by omega), rd_drop (xs := ys) (i := i) (by omega), w64n (n := xs.length) (by omega) hn]
    refine Kit.Ev.ite (fun h => ?_) (fun h => Kit.Ev.const ?_)
    · exact (ih (i + 1) (by omega)).eq (by rw [h]; simp)
    · simp [h]
theorem slicesEq_ev (xs ys : List Int) (hn : xs.length ≤ 9223372036854775807) : Ev (fun k => slices_Equal_int64_int64.f k xs ys) (decide (xs = ys)) := by
  unfold slices_Equal_int64_int64.f
  refine Kit.Ev.ite (fun h => ?_) (fun h => Kit.Ev.const ?_)
  · exact (slicesEq_l0 xs ys hn (by omega) xs.length 0 (by omega)).eq (by simp)
  · have : xs ≠ ys := fun e => h (by rw [e])
    simp [this]
def conv (x : S95) : S97 := ⟨x.f0, x.f1⟩
def szGo : Int → List S95 → Int
  | t, [] => t
  | t, x :: xs => if t - (x.f0.length : Int) < 0 then -1 else szGo (t - (x.f0.length : Int)) xs
def szE (t : Int) (l : List S95) : Int := if t - (l.length : Int) < 0 then -1 else szGo (t - (l.length : Int)) l
theorem szGo_le : ∀ (l : List S95) (t : Int), 0 ≤ szGo t l → szGo t l ≤ t ∧ ∀ x ∈ l, (x.f0.length : Int) ≤ t
  | [], t, h => ⟨Int.le_refl _, by simp⟩
  | x :: xs, t, h => by
    unfold szGo at h ⊢
    by_cases hc : t - (x.f0.length : Int) < 0
    · rw [if_pos hc] at h; omega
    · rw [if_neg hc] at h ⊢
      have ih := szGo_le xs _ h
      refine ⟨by omega, fun y hy => ?_⟩
      rcases List.mem_cons.1 hy with rfl | hy
      · omega
      · have := ih.2 y hy; omega
theorem szE_le {t : Int} {l : List S95} (h : 0 ≤ szE t l) : (l.length : Int) ≤ t ∧ szE t l ≤ t ∧ ∀ x ∈ l, (x.f0.length : Int) ≤ t := by
  unfold szE at h ⊢
  by_cases hc : t - (l.length : Int) < 0
  · rw [if_pos hc] at h; omega
  · rw [if_neg hc] at h ⊢
    have := szGo_le l _ h
    refine ⟨by omega, by omega, fun x hx => ?_⟩
    have := this.2 x hx
    omega
/-- The rows are no longer than any machine's. -/
def FineN (l : List S58) : Prop := l.length ≤ 1048576 ∧ ∀ x ∈ l, x.f6.length ≤ 1048576
theorem FineN.n {l : List S58} (h : FineN l) : l.length ≤ 9223372036854775807 := by have := h.1; omega
theorem FineN.r {l : List S58} (h : FineN l) : ∀ x ∈ l, x.f6.length ≤ 9223372036854775807 := fun x hx => by have := h.2 x hx; omega
/-- The rows are no longer than any machine's. -/
def Fine (l : List S97) : Prop := l.length ≤ 1048576 ∧ ∀ x ∈ l, x.f0.length ≤ 1048576
theorem Fine.n {l : List S97} (h : Fine l) : l.length ≤ 9223372036854775807 := by have := h.1; omega
theorem Fine.r {l : List S97} (h : Fine l) : ∀ x ∈ l, x.f0.length ≤ 9223372036854775807 := fun x hx => by have := h.2 x hx; omega
def FineL (e : List S95) : Prop := e.length ≤ 1048576 ∧ ∀ x ∈ e, x.f0.length ≤ 1048576
theorem FineL.fine {e : List S95} (h : FineL e) : Fine (e.map conv) := by
  refine ⟨by rw [List.length_map]; exact h.1, fun x hx => ?_⟩
  obtain ⟨y, hy, rfl⟩ := List.mem_map.1 hx
  exact h.2 y hy
def FineSS (l : List (List S97)) : Prop := l.length ≤ 1048576 ∧ ∀ e ∈ l, Fine e
theorem rdRLE {l : List (List S95)} {i : Nat} (h : i < l.length) : rd_L5 l (i : Int) = l[i] := by simp only [rd_L5, Int.toNat_natCast, List.getD_eq_getElem?_getD, List.getElem?_eq_getElem h, Option.getD_some]
theorem rdREE {l : List (List S97)} {i : Nat} (h : i < l.length) : rd_L7 l (i : Int) = l[i] := by simp only [rd_L7, Int.toNat_natCast, List.getD_eq_getElem?_getD, List.getElem?_eq_getElem h, Option.getD_some]
theorem rdLE_at {xs : List S95} {i : Nat} (h : i < xs.length) : rd_T95 xs (i : Int) = xs[i] := by simp [rd_T95, h]
theorem rdLE_drop {xs : List S95} {i : Nat} (h : i < xs.length) : xs.drop i = rd_T95 xs (i : Int) :: xs.drop (i + 1) := by
  rw [rdLE_at h]; exact List.drop_eq_getElem_cons h
theorem rdLE_mem {xs : List S95} {i : Nat} (h : i < xs.length) : rd_T95 xs (i : Int) ∈ xs := by
  rw [rdLE_at h]; exact List.getElem_mem h
theorem szInt_eq {n : Nat} {l : List Int} {t : Int} (h0 : 0 ≤ t) (h1 : t ≤ 1048576) (hn : l.length = n) (hl : n ≤ 9223372036854775807) : laws_szInt64S.f l t = some (if t - (n : Int) < 0 then -1 else t - (n : Int)) := by
  unfold laws_szInt64S.f
  rw [hn, Kit.w64 (by omega) (by omega)]
  by_cases h : t - (n : Int) < 0
  · rw [if_pos h, if_pos h]
  · rw [if_neg h, if_neg h]
theorem szEntry_eq {l : List Int} {w t : Int} (h0 : 0 ≤ t) (h1 : t ≤ 1048576) (hl : l.length ≤ 9223372036854775807) : laws_szEntry.f l w t = some (if t - (l.length : Int) < 0 then -1 else t - (l.length : Int)) := by
  unfold laws_szEntry.f
  rw [szInt_eq h0 h1 rfl hl]
  simp only [Option.bind_some]
  by_cases h : t - (l.length : Int) < 0
  · rw [if_pos h, if_pos (by omega)]
  · rw [if_neg h, if_neg h]
theorem szEntryS_l0 (xs : List S95) (hn : xs.length ≤ 9223372036854775807) (hr : ∀ x ∈ xs, x.f0.length ≤ 9223372036854775807) : ∀ (d i : Nat) (t : Int), i + d = xs.length → 0 ≤ t → t ≤ 1048576 → Ev (fun k => laws_szEntryS.l0 k xs t (i : Int)) (szGo t (xs.drop i)) := by
  intro d
  induction d with
  | zero =>
    intro i t hd h0 h1
    refine Kit.Ev.up ?_
    simp only [laws_szEntryS.l0]
    refine Kit.Ev.neg (by omega) (Kit.Ev.const ?_)
    rw [List.drop_eq_nil_of_le (by omega)]; rfl
  | succ d ih =>
    intro i t hd h0 h1
    refine Kit.Ev.up ?_
    simp only [laws_szEntryS.l0]
    refine Kit.Ev.pos (by omega) (Kit.Ev.pos (by omega) ?_)
    rw [rdLE_drop (xs := xs) (i := i) (by omega), w64n (n := xs.length) (by omega) hn, szEntry_eq h0 h1 (hr _ (rdLE_mem (by omega)))]
    simp only [Option.bind_some, szGo]
    by_cases h : t - ((rd_T95 xs (i : Int)).f0.length : Int) < 0
    · rw [if_pos h]; exact Kit.Ev.pos (by omega) (Kit.Ev.const (by rw [if_pos h]))
    · rw [if_neg h, if_neg h]
      exact Kit.Ev.neg h (ih (i + 1) _ (by omega) (by omega) (by omega))
theorem szEntryS_ev (xs : List S95) (hn : xs.length ≤ 9223372036854775807) (hr : ∀ x ∈ xs, x.f0.length ≤ 9223372036854775807) {t : Int} (h0 : 0 ≤ t) (h1 : t ≤ 1048576) : Ev (fun k => laws_szEntryS.f k xs t) (szE t xs) := by
  unfold laws_szEntryS.f szE
  rw [Kit.w64 (by omega) (by omega)]
  by_cases h : t - (xs.length : Int) < 0
  · rw [if_pos h]; exact Kit.Ev.pos h (Kit.Ev.const rfl)
  · rw [if_neg h]; exact Kit.Ev.neg h (szEntryS_l0 xs hn hr xs.length 0 _ (by omega) (by omega) (by omega))
theorem szES_some (l : List (List S95)) (hn : l.length ≤ 9223372036854775807) (hr : ∀ e ∈ l, e.length ≤ 9223372036854775807 ∧ ∀ x ∈ e, x.f0.length ≤ 9223372036854775807) {t : Int} (h0 : 0 ≤ t) (h1 : t ≤ 1048576) : ∃ z, Ev (fun k => laws_szEntrySS.f k l t) z ∧ (0 ≤ z → l.length ≤ 1048576 ∧ ∀ e ∈ l, FineL e) := by
  have L : ∀ (d i : Nat) (t : Int), i + d = l.length → 0 ≤ t → t ≤ 1048576 → ∃ z, Ev (fun k => laws_szEntrySS.l0 k l t (i : Int)) z ∧ (0 ≤ z → ∀ e ∈ l.drop i, FineL e) := by
    intro d
    induction d with
    | zero =>
      intro i t hd h0 h1
      refine ⟨t, Kit.Ev.up ?_, fun _ => by rw [List.drop_eq_nil_of_le (by omega)]; simp⟩
      simp only [laws_szEntrySS.l0]
      exact Kit.Ev.neg (by omega) (Kit.Ev.const rfl)
    | succ d ih =>
      intro i t hd h0 h1
      have hi : i < l.length := by omega
      have hm := rdRLE hi
      have he := hr _ (List.getElem_mem hi)
      have hz := szEntryS_ev l[i] he.1 he.2 h0 h1
      by_cases hc : szE t l[i] < 0
      · refine ⟨-1, Kit.Ev.up ?_, fun h => by omega⟩
        simp only [laws_szEntrySS.l0, hm]
        exact Kit.Ev.pos (by omega) (Kit.Ev.pos (by omega) (Kit.Ev.then hz (Kit.Ev.pos hc (Kit.Ev.const rfl))))
      · have hb := szE_le (t := t) (l := l[i]) (by omega)
        obtain ⟨z, H, hq⟩ := ih (i + 1) (szE t l[i]) (by omega) (by omega) (by omega)
        refine ⟨z, Kit.Ev.up ?_, fun h => ?_⟩
        · simp only [laws_szEntrySS.l0, hm]
          refine Kit.Ev.pos (by omega) (Kit.Ev.pos (by omega) (Kit.Ev.then hz (Kit.Ev.neg hc ?_)))
          rw [w64n (n := l.length) (by omega) hn]
          exact H
        · have := hq h
          rw [List.drop_eq_getElem_cons hi]
          intro e he
          rcases List.mem_cons.mp he with rfl | he
          · refine ⟨by omega, fun x hx => ?_⟩
            have := hb.2.2 x hx; omega
          · exact this e he
  unfold laws_szEntrySS.f
  rw [Kit.w64 (by omega) (by omega)]
  by_cases hc : t - (l.length : Int) < 0
  · exact ⟨-1, Kit.Ev.pos hc (Kit.Ev.const rfl), fun h => by omega⟩
  · obtain ⟨z, H, hb⟩ := L l.length 0 (t - (l.length : Int)) (by omega) (by omega) (by omega)
    refine ⟨z, Kit.Ev.neg hc H, fun h => ⟨by omega, ?_⟩⟩
    have := hb h
    simpa only [List.drop_zero] using this
theorem toEntryS_l0 (xs : List S95) (hn : xs.length ≤ 9223372036854775807) (hr : ∀ x ∈ xs, x.f0.length ≤ 1048576) : ∀ (d i : Nat) (ys : List S97), i + d = xs.length → ys.length = xs.length → (∀ j, j < i → ys[j]? = (xs.map conv)[j]?) → Ev (fun k => laws_toEntryS.l0 k xs ys (i : Int)) (xs.map conv) := by
  intro d
  induction d with
  | zero =>
    intro i ys hd hl he
    refine Kit.Ev.up ?_
    simp only [laws_toEntryS.l0]
    refine Kit.Ev.neg (by omega) (Kit.Ev.const ?_)
    congr 1
    apply List.ext_getElem?
    intro j
    by_cases hj : j < i
    · exact he j hj
    · rw [List.getElem?_eq_none (by omega), List.getElem?_eq_none (by rw [List.length_map]; omega)]
  | succ d ih =>
    intro i ys hd hl he
    refine Kit.Ev.up ?_
    simp only [laws_toEntryS.l0, laws_toEntry.f]
    refine Kit.Ev.pos (by omega) (Kit.Ev.pos (by omega) ?_)
    have hm := rdLE_mem (xs := xs) (i := i) (by omega)
    refine Kit.Ev.then (a := ((rd_T95 xs (i : Int)).f0, (rd_T95 xs (i : Int)).f1)) (Kit.Ev.then (toInt64S_ev _ (hr _ hm)) (Kit.Ev.const rfl)) ?_
    refine Kit.Ev.pos (by omega) ?_
    rw [w64n (n := xs.length) (by omega) hn, Int.toNat_natCast]
    refine ih (i + 1) _ (by omega) (by simpa using hl) (fun j hj => ?_)
    rw [List.getElem?_set]
    by_cases e : i = j
    · subst e
      rw [if_pos rfl, if_pos (by omega), List.getElem?_map, List.getElem?_eq_getElem (by omega), rdLE_at (by omega)]
      rfl
    · rw [if_neg e]
      exact he j (by omega)
theorem toEntryS_ev (xs : List S95) (hn : xs.length ≤ 1048576) (hr : ∀ x ∈ xs, x.f0.length ≤ 1048576) : Ev (fun k => laws_toEntryS.f k xs) (xs.map conv) := by
  unfold laws_toEntryS.f
  refine Kit.Ev.pos (by omega) (Kit.Ev.pos (by omega) ?_)
  exact toEntryS_l0 xs (by omega) hr xs.length 0 _ (by omega) (by simp) (fun j hj => by omega)
theorem toES_l0 (xs : List (List S95)) (hn : xs.length ≤ 9223372036854775807) (hr : ∀ e ∈ xs, FineL e) : ∀ (d i : Nat) (ys : List (List S97)), i + d = xs.length → ys.length = xs.length → (∀ j, j < i → ys[j]? = (xs.map (List.map conv))[j]?) → Ev (fun k => laws_toEntrySS.l0 k xs ys (i : Int)) (xs.map (List.map conv)) := by
  intro d
  induction d with
  | zero =>
    intro i ys hd hl he
    refine Kit.Ev.up ?_
    simp only [laws_toEntrySS.l0]
    refine Kit.Ev.neg (by omega) (Kit.Ev.const ?_)
    congr 1
    apply List.ext_getElem?
    intro j
    by_cases hj : j < i
    · exact he j hj
    · rw [List.getElem?_eq_none (by omega), List.getElem?_eq_none (by rw [List.length_map]; omega)]
  | succ d ih =>
    intro i ys hd hl he
    have hi : i < xs.length := by omega
    have hf := hr _ (List.getElem_mem hi)
    refine Kit.Ev.up ?_
    simp only [laws_toEntrySS.l0, rdRLE hi]
    refine Kit.Ev.pos (by omega) (Kit.Ev.pos (by omega) (Kit.Ev.then (toEntryS_ev _ hf.1 hf.2) (Kit.Ev.pos (by omega) ?_)))
    rw [w64n (n := xs.length) (by omega) hn, Int.toNat_natCast]
    refine ih (i + 1) _ (by omega) (by simpa using hl) (fun j hj => ?_)
    rw [List.getElem?_set]
    by_cases e : i = j
    · subst e
      rw [if_pos rfl, if_pos (by omega), List.getElem?_map, List.getElem?_eq_getElem (by omega)]
      rfl
    · rw [if_neg e]
      exact he j (by omega)
theorem toES_ev (xs : List (List S95)) (hn : xs.length ≤ 1048576) (hr : ∀ e ∈ xs, FineL e) : Ev (fun k => laws_toEntrySS.f k xs) (xs.map (List.map conv)) := by
  unfold laws_toEntrySS.f
  refine Kit.Ev.pos (by omega) (Kit.Ev.pos (by omega) ?_)
  exact toES_l0 xs (by omega) hr xs.length 0 _ (by omega) (by simp) (fun j hj => by omega)
theorem rdE_at {xs : List S97} {i : Nat} (h : i < xs.length) : rd_T97 xs (i : Int) = xs[i] := by simp [rd_T97, h]
theorem rdE_drop {xs : List S97} {i : Nat} (h : i < xs.length) : xs.drop i = rd_T97 xs (i : Int) :: xs.drop (i + 1) := by
  rw [rdE_at h]; exact List.drop_eq_getElem_cons h
theorem rdE_mem {xs : List S97} {i : Nat} (h : i < xs.length) : rd_T97 xs (i : Int) ∈ xs := by
  rw [rdE_at h]; exact List.getElem_mem h
theorem eqEntryS_l0 (xs : List S97) (hn : xs.length ≤ 9223372036854775807) (hr : ∀ x ∈ xs, x.f0.length ≤ 9223372036854775807) : ∀ (d i : Nat), i + d = xs.length → Ev (fun k => laws_eqEntryS.l0 k xs xs (i : Int)) true := by
  intro d
  induction d with
  | zero =>
    intro i hd
    refine Kit.Ev.up ?_
    simp only [laws_eqEntryS.l0]
    exact Kit.Ev.neg (by omega) (Kit.Ev.const rfl)
  | succ d ih =>
    intro i hd
    refine Kit.Ev.up ?_
    simp only [laws_eqEntryS.l0, laws_eqEntry.f]
    refine Kit.Ev.pos (by omega) (Kit.Ev.pos (by omega) (Kit.Ev.pos (by omega) ?_))
    have hm := rdE_mem (xs := xs) (i := i) (by omega)
    refine Kit.Ev.then (a := true) (Kit.Ev.then (eqInt64S_refl _ (hr _ hm)) (Kit.Ev.pos rfl (Kit.Ev.pos (by trivial) (Kit.Ev.const rfl)))) ?_
    refine Kit.Ev.pos rfl ?_
    rw [w64n (n := xs.length) (by omega) hn]
    exact ih (i + 1) (by omega)
theorem eqEntryS_refl (xs : List S97) (hn : xs.length ≤ 9223372036854775807) (hr : ∀ x ∈ xs, x.f0.length ≤ 9223372036854775807) : Ev (fun k => laws_eqEntryS.f k xs xs) true := by
  unfold laws_eqEntryS.f
  exact Kit.Ev.pos rfl (eqEntryS_l0 xs hn hr xs.length 0 (by omega))
theorem eqES_l0 (xs : List (List S97)) (hx : FineSS xs) : ∀ (d i : Nat), i + d = xs.length → Ev (fun k => laws_eqEntrySS.l0 k xs xs (i : Int)) true := by
  have hn := hx.1
  intro d
  induction d with
  | zero =>
    intro i hd
    refine Kit.Ev.up ?_
    simp only [laws_eqEntrySS.l0]
    exact Kit.Ev.neg (by omega) (Kit.Ev.const rfl)
  | succ d ih =>
    intro i hd
    have hi : i < xs.length := by omega
    have hf := hx.2 _ (List.getElem_mem hi)
    refine Kit.Ev.up ?_
    simp only [laws_eqEntrySS.l0, rdREE hi]
    refine Kit.Ev.pos (by omega) (Kit.Ev.pos (by omega) (Kit.Ev.pos (by omega) (Kit.Ev.then (eqEntryS_refl _ hf.n hf.r) (Kit.Ev.pos rfl ?_))))
    rw [w64n (n := xs.length) (by omega) (by omega)]
    exact ih (i + 1) (by omega)
theorem eqES_refl (xs : List (List S97)) (hx : FineSS xs) : Ev (fun k => laws_eqEntrySS.f k xs xs) true := by
  unfold laws_eqEntrySS.f
  exact Kit.Ev.pos rfl (eqES_l0 xs hx xs.length 0 (by omega))
theorem rdN_at {xs : List S58} {i : Nat} (h : i < xs.length) : rd_T58 xs (i : Int) = xs[i] := by simp [rd_T58, h]
theorem rdN_drop {xs : List S58} {i : Nat} (h : i < xs.length) : xs.drop i = rd_T58 xs (i : Int) :: xs.drop (i + 1) := by
  rw [rdN_at h]; exact List.drop_eq_getElem_cons h
theorem rdN_mem {xs : List S58} {i : Nat} (h : i < xs.length) : rd_T58 xs (i : Int) ∈ xs := by
  rw [rdN_at h]; exact List.getElem_mem h
def readsL (x : S58) : List Int := if x.f0 = 1 then [] else if x.f0 = 4 ∨ x.f0 = 6 then [x.f1, x.f2] else [x.f1]
def namedB (a0 a1 a2 a3 a4 a5 : Int) (l6 : List Int) : Bool := decide ((a0 = 1 → a1 = 0) ∧ (¬ (a0 = 4 ∨ a0 = 6) → a2 = 0) ∧ (¬ a0 = 2 → a4 = 0 ∧ a5 = 0) ∧ (¬ a0 = 3 → l6 = []) ∧ ((a0 = 3 ∨ a0 = 4 ∨ a0 = 5 ∨ a0 = 11 ∨ a0 = 12) → a3 = 0))
def named (x : S58) : Bool := namedB x.f0 x.f1 x.f2 x.f3 x.f4 x.f5 x.f6
def widthW (ws : List Int) (x : S58) : Int :=
  if x.f0 = 1 then x.f3 else if x.f0 = 3 then (x.f6.length : Int) else if x.f0 = 6 then rd ws x.f1 + rd ws x.f2 - x.f3 else if 7 ≤ x.f0 ∧ x.f0 ≤ 10 then x.f3 + 1 else rd ws x.f1
def cellOk (w c : Int) : Bool := decide (0 ≤ c ∧ c ≤ w - 1)
def faultW (ws : List Int) (x : S58) : Int :=
  if x.f0 = 1 then (if 1 ≤ x.f3 ∧ x.f3 ≤ 3 then 0 else 3)
  else if x.f0 = 2 then (if 0 ≤ x.f3 ∧ x.f3 ≤ rd ws x.f1 - 1 then (if 0 ≤ x.f4 ∧ x.f4 ≤ 2 then (if -1000000000 ≤ x.f5 ∧ x.f5 ≤ 1000000000 then 0 else 3) else 3) else 3)
  else if x.f0 = 3 then (if 1 ≤ (x.f6.length : Int) ∧ (x.f6.length : Int) ≤ 4 then (if x.f6.all (cellOk (rd ws x.f1)) = true then 0 else 3) else 2)
  else if x.f0 = 4 then (if rd ws x.f1 = rd ws x.f2 then 0 else 1)
  else if x.f0 = 6 then (if 1 ≤ x.f3 ∧ x.f3 ≤ min (rd ws x.f1) (rd ws x.f2) then (if rd ws x.f1 + rd ws x.f2 - x.f3 > 4 then 2 else 0) else 3)
  else if x.f0 = 7 then (if 0 ≤ x.f3 ∧ x.f3 ≤ min (rd ws x.f1) 3 then 0 else 3)
  else if 8 ≤ x.f0 ∧ x.f0 ≤ 10 then (if 0 ≤ x.f3 ∧ x.f3 ≤ rd ws x.f1 - 1 then 0 else 3)
  else 0
def readOk (plan : List S58) (i : Nat) (k : Int) : Bool := decide (0 ≤ k ∧ k ≤ (i : Int) - 1) && !decide ((rd_T58 plan k).f0 = 12)
def wsN (plan : List S58) : Nat → List Int
  | 0 => []
  | i + 1 => wsN plan i ++ [widthW (wsN plan i) (rd_T58 plan (i : Int))]
def codeN (plan : List S58) (i : Nat) : Int :=
  if 1 ≤ (rd_T58 plan (i : Int)).f0 ∧ (rd_T58 plan (i : Int)).f0 ≤ 12 then
    (if named (rd_T58 plan (i : Int)) = true then (if (readsL (rd_T58 plan (i : Int))).all (readOk plan i) = true then faultW (wsN plan i) (rd_T58 plan (i : Int)) else 3) else 1)
  else 5
theorem codeN_eq (plan : List S58) (i : Nat) : codeN plan i = if 1 ≤ (rd_T58 plan (i : Int)).f0 ∧ (rd_T58 plan (i : Int)).f0 ≤ 12 then
    (if named (rd_T58 plan (i : Int)) = true then (if (readsL (rd_T58 plan (i : Int))).all (readOk plan i) = true then faultW (wsN plan i) (rd_T58 plan (i : Int)) else 3) else 1)
  else 5 := rfl
def GoodN (plan : List S58) (i : Nat) : Prop := ∀ j, j < i → codeN plan j = 0
def planC (plan : List S58) : Nat → Nat → Int
  | 0, _ => 0
  | d + 1, i => if codeN plan i = 0 then planC plan d (i + 1) else codeN plan i
def planF (plan : List S58) : Int := if 1 ≤ plan.length ∧ plan.length ≤ 8 then planC plan plan.length 0 else 2
def wOf (plan : List S58) (i : Nat) : Int := widthW (wsN plan i) (rd_T58 plan (i : Int))
theorem wsN_len (plan : List S58) : ∀ i, (wsN plan i).length = i
  | 0 => rfl
  | i + 1 => by simp [wsN, wsN_len plan i]
theorem wsN_rd (plan : List S58) : ∀ {i j : Nat}, j < i → rd (wsN plan i) (j : Int) = wOf plan j
  | 0, _, h => by omega
  | i + 1, j, h => by
    rw [Kit.rd_nat, wsN, List.getD_eq_getElem?_getD]
    by_cases e : j = i
    · subst e
      rw [List.getElem?_append_right (by rw [wsN_len]; omega), wsN_len]
      simp [wOf]
    · rw [List.getElem?_append_left (by rw [wsN_len]; omega), ← List.getD_eq_getElem?_getD, ← Kit.rd_nat]
      exact wsN_rd plan (by omega)
theorem planC_zero (plan : List S58) : ∀ (d i : Nat), planC plan d i = 0 ↔ ∀ j, i ≤ j → j < i + d → codeN plan j = 0
  | 0, i => ⟨fun _ j h1 h2 => by omega, fun _ => rfl⟩
  | d + 1, i => by
    simp only [planC]
    by_cases h : codeN plan i = 0
    · rw [if_pos h, planC_zero plan d (i + 1)]
      constructor
      · intro g j h1 h2
        by_cases e : j = i
        · rw [e]; exact h
        · exact g j (by omega) (by omega)
      · intro g j h1 h2
        exact g j (by omega) (by omega)
    · rw [if_neg h]
      constructor
      · intro g; exact absurd g h
      · intro g; exact absurd (g i (by omega) (by omega)) h
theorem planF_good {plan : List S58} (h : planF plan = 0) : (1 ≤ plan.length ∧ plan.length ≤ 8) ∧ GoodN plan plan.length := by
  unfold planF at h
  by_cases h1 : 1 ≤ plan.length ∧ plan.length ≤ 8
  · rw [if_pos h1] at h
    exact ⟨h1, fun j hj => (planC_zero plan _ _).mp h j (by omega) (by omega)⟩
  · rw [if_neg h1] at h; omega
theorem op_cases {a : Int} (h : 1 ≤ a ∧ a ≤ 12) : a = 1 ∨ a = 2 ∨ a = 3 ∨ a = 4 ∨ a = 5 ∨ a = 6 ∨ a = 7 ∨ a = 8 ∨ a = 9 ∨ a = 10 ∨ a = 11 ∨ a = 12 := by omega
theorem codeN_parts {plan : List S58} {i : Nat} (h : codeN plan i = 0) : (1 ≤ (rd_T58 plan (i : Int)).f0 ∧ (rd_T58 plan (i : Int)).f0 ≤ 12) ∧ named (rd_T58 plan (i : Int)) = true ∧ (readsL (rd_T58 plan (i : Int))).all (readOk plan i) = true ∧ faultW (wsN plan i) (rd_T58 plan (i : Int)) = 0 := by
  unfold codeN at h
  by_cases h1 : 1 ≤ (rd_T58 plan (i : Int)).f0 ∧ (rd_T58 plan (i : Int)).f0 ≤ 12
  · rw [if_pos h1] at h
    by_cases h2 : named (rd_T58 plan (i : Int)) = true
    · rw [if_pos h2] at h
      by_cases h3 : (readsL (rd_T58 plan (i : Int))).all (readOk plan i) = true
      · rw [if_pos h3] at h
        exact ⟨h1, h2, h3, h⟩
      · rw [if_neg h3] at h; omega
    · rw [if_neg h2] at h; omega
  · rw [if_neg h1] at h; omega
theorem readOk_in {plan : List S58} {i : Nat} {k : Int} (h : readOk plan i k = true) : ∃ a : Nat, (a : Int) = k ∧ a < i ∧ ¬ (rd_T58 plan k).f0 = 12 := by
  simp only [readOk, Bool.and_eq_true, decide_eq_true_eq, Bool.not_eq_true', decide_eq_false_iff_not] at h
  exact ⟨k.toNat, by omega, by omega, h.2⟩
/-- The first that a node reads from. -/
theorem reads_a {plan : List S58} {i : Nat} {x : S58} (h : (readsL x).all (readOk plan i) = true) (h1 : ¬ x.f0 = 1) : ∃ a : Nat, (a : Int) = x.f1 ∧ a < i ∧ ¬ (rd_T58 plan x.f1).f0 = 12 := by
  refine readOk_in (List.all_eq_true.mp h _ ?_)
  unfold readsL
  rw [if_neg h1]
  split <;> simp
theorem reads_b {plan : List S58} {i : Nat} {x : S58} (h : (readsL x).all (readOk plan i) = true) (h2 : x.f0 = 4 ∨ x.f0 = 6) : ∃ b : Nat, (b : Int) = x.f2 ∧ b < i ∧ ¬ (rd_T58 plan x.f2).f0 = 12 := by
  refine readOk_in (List.all_eq_true.mp h _ ?_)
  unfold readsL
  rw [if_neg (by omega), if_pos h2]
  simp
theorem width_in {ws : List Int} {x : S58} (h0 : 1 ≤ x.f0 ∧ x.f0 ≤ 12) (hf : faultW ws x = 0) (ha : ¬ x.f0 = 1 → 1 ≤ rd ws x.f1 ∧ rd ws x.f1 ≤ 4) (hb : x.f0 = 4 ∨ x.f0 = 6 → 1 ≤ rd ws x.f2 ∧ rd ws x.f2 ≤ 4) : 1 ≤ widthW ws x ∧ widthW ws x ≤ 4 := by
  rcases op_cases h0 with h | h | h | h | h | h | h | h | h | h | h | h <;> simp only [faultW, widthW, h, Int.reduceEq, Int.reduceLE, if_true, if_false, false_or, or_false, true_or, or_true, and_self, and_false, false_and, and_true, true_and] at hf ha hb ⊢
  all_goals (repeat' split at hf)
  all_goals first | omega | (have := ha (by simp); omega) | (have := ha (by simp); have := hb (by simp); omega)
theorem wOf_in {plan : List S58} {i : Nat} (hg : GoodN plan i) : ∀ (n j : Nat), j < n → j < i → 1 ≤ wOf plan j ∧ wOf plan j ≤ 4
  | 0, _, h, _ => by omega
  | n + 1, j, hn, hj => by
    obtain ⟨h1, h2, h3, h4⟩ := codeN_parts (hg j hj)
    refine width_in h1 h4 (fun h => ?_) (fun h => ?_)
    · obtain ⟨a, ea, ha, _⟩ := reads_a h3 h
      rw [← ea, wsN_rd plan ha]
      exact wOf_in hg n a (by omega) (by omega)
    · obtain ⟨b, eb, hb, _⟩ := reads_b h3 h
      rw [← eb, wsN_rd plan hb]
      exact wOf_in hg n b (by omega) (by omega)
theorem rd_in {plan : List S58} {i : Nat} (hg : GoodN plan i) {a : Nat} (ha : a < i) : rd (wsN plan i) (a : Int) = wOf plan a ∧ 1 ≤ wOf plan a ∧ wOf plan a ≤ 4 := ⟨wsN_rd plan ha, wOf_in hg i a ha ha⟩
def nodesL (op : Int) : List S58 → Nat → List Int
  | [], _ => []
  | x :: xs, i => if x.f0 = op then (i : Int) :: nodesL op xs (i + 1) else nodesL op xs (i + 1)
def nodesOfF (op : Int) (plan : List S58) : Int × List Int := if planF plan = 0 then (if 1 ≤ op ∧ op ≤ 12 then (0, nodesL op plan 0) else (5, [])) else (planF plan, [])
theorem nodesL_len (op : Int) : ∀ (xs : List S58) (i : Nat), (nodesL op xs i).length ≤ xs.length
  | [], _ => Nat.le_refl _
  | x :: xs, i => by
    have := nodesL_len op xs (i + 1)
    simp only [nodesL]
    split <;> simp only [List.length_cons] <;> omega
theorem nodesOfF_len (op : Int) (plan : List S58) : (nodesOfF op plan).2.length ≤ plan.length := by
  unfold nodesOfF
  repeat' split
  · exact nodesL_len op plan 0
  all_goals simp
def setG : Option (List Int) → List S97 → Int
  | _, [] => 0
  | p, x :: xs => if rowF x.f0 = 0 then (if isW x.f1 = true ∧ x.f1 ≠ 0 then (match p with | some q => if cmpR q x.f0 ≥ 0 then 1 else setG (some x.f0) xs | none => setG (some x.f0) xs) else 3) else rowF x.f0
def setF (l : List S97) : Int := if 200 < l.length then 2 else setG none l
def prevE (xs : List S97) (i : Nat) : Option (List Int) := if i = 0 then none else some (rd_T97 xs ((i - 1 : Nat) : Int)).f0
theorem prevE_succ (xs : List S97) (i : Nat) : prevE xs (i + 1) = some (rd_T97 xs (i : Int)).f0 := by simp [prevE]
theorem w64p {i : Nat} (h : 0 < i) (hn : i ≤ 9223372036854775807) : wrap64 ((i : Int) - 1) = ((i - 1 : Nat) : Int) := by
  rw [Kit.w64 (by omega) (by omega)]; omega
def widthF (l : List S97) (w : Int) : Int := if setF l = 0 then (if l.all (fun x => decide ((x.f0.length : Int) = w)) = true then 0 else 1) else setF l
theorem nodesL_mem (op : Int) : ∀ (xs : List S58) (i : Nat) (v : Int), v ∈ nodesL op xs i → ∃ n : Nat, v = ((i + n : Nat) : Int) ∧ n < xs.length ∧ (rd_T58 xs (n : Int)).f0 = op
  | [], _, _, h => by simp [nodesL] at h
  | x :: xs, i, v, h => by
    have tl : v ∈ nodesL op xs (i + 1) → ∃ n : Nat, v = ((i + n : Nat) : Int) ∧ n < (x :: xs).length ∧ (rd_T58 (x :: xs) (n : Int)).f0 = op := by
      intro h
      obtain ⟨n, h1, h2, h3⟩ := nodesL_mem op xs (i + 1) v h
      refine ⟨n + 1, by rw [h1]; omega, by simp only [List.length_cons]; omega, ?_⟩
      rw [rdN_at (by simp only [List.length_cons]; omega), List.getElem_cons_succ, ← rdN_at h2]
      exact h3
    simp only [nodesL] at h
    by_cases hc : x.f0 = op
    · rw [if_pos hc] at h
      rcases List.mem_cons.mp h with h | h
      · refine ⟨0, by omega, by simp, ?_⟩
        rw [rdN_at (by simp)]
        exact hc
      · exact tl h
    · rw [if_neg hc] at h
      exact tl h
def inputsC (plan : List S58) (ins : List (List S97)) : List Int → Nat → Int
  | [], _ => 0
  | v :: vs, i => if widthF (rd_L7 ins (i : Int)) (rd_T58 plan v).f3 = 0 then inputsC plan ins vs (i + 1) else widthF (rd_L7 ins (i : Int)) (rd_T58 plan v).f3
def inputsF (plan : List S58) (ins : List (List S97)) : Int := if planF plan = 0 then (if ins.length = (nodesL 1 plan 0).length then inputsC plan ins (nodesL 1 plan 0) 0 else 2) else planF plan
theorem rd_memI {ns : List Int} {i : Nat} (h : i < ns.length) : rd ns (i : Int) ∈ ns := by
  have : rd ns (i : Int) ∈ ns.drop i := by rw [rd_drop (xs := ns) (i := i) h]; exact List.mem_cons_self
  exact List.mem_of_mem_drop this
theorem evDec {α : Type} {c : Prop} [Decidable c] {g h : Nat → Option α} {r s : α} (hg : c → Ev g r) (hh : ¬ c → Ev h s) : Ev (fun k => if decide c = true then g k else h k) (if c then r else s) := by
  by_cases hc : c
  · rw [if_pos hc]; exact Kit.Ev.pos (decide_eq_true hc) (hg hc)
  · rw [if_neg hc]; exact Kit.Ev.neg (by simpa using hc) (hh hc)
theorem specWidthN_ev {plan : List S58} {i : Nat} (hi : i ≤ plan.length) (hg : GoodN plan i) : ∀ (n j : Nat), j < n → j < i → Ev (fun k => spec_l3Width.f k plan (j : Int)) (wOf plan j)
  | 0, _, h, _ => by omega
  | n + 1, j, hn, hj => by
    obtain ⟨h1, h2, h3, h4⟩ := codeN_parts (hg j hj)
    have hgj : GoodN plan j := fun q hq => hg q (by omega)
    have A : ¬ (rd_T58 plan (j : Int)).f0 = 1 → Ev (fun k => spec_l3Width.f k plan (rd_T58 plan (j : Int)).f1) (rd (wsN plan j) (rd_T58 plan (j : Int)).f1) ∧ 1 ≤ rd (wsN plan j) (rd_T58 plan (j : Int)).f1 ∧ rd (wsN plan j) (rd_T58 plan (j : Int)).f1 ≤ 4 := fun h => by
      obtain ⟨a, ea, ha, _⟩ := reads_a h3 h
      rw [← ea, wsN_rd plan ha]
      exact ⟨specWidthN_ev hi hg n a (by omega) (by omega), wOf_in hgj j a ha ha⟩
    have B : (rd_T58 plan (j : Int)).f0 = 4 ∨ (rd_T58 plan (j : Int)).f0 = 6 → Ev (fun k => spec_l3Width.f k plan (rd_T58 plan (j : Int)).f2) (rd (wsN plan j) (rd_T58 plan (j : Int)).f2) ∧ 1 ≤ rd (wsN plan j) (rd_T58 plan (j : Int)).f2 ∧ rd (wsN plan j) (rd_T58 plan (j : Int)).f2 ≤ 4 := fun h => by
      obtain ⟨a, ea, ha, _⟩ := reads_b h3 h
      rw [← ea, wsN_rd plan ha]
      exact ⟨specWidthN_ev hi hg n a (by omega) (by omega), wOf_in hgj j a ha ha⟩
    have W := wOf_in hg (j + 1) j (by omega) hj
    have e : wOf plan j = widthW (wsN plan j) (rd_T58 plan (j : Int)) := rfl
    rw [e] at W ⊢
    refine Kit.Ev.up ?_
    simp only [spec_l3Width.f]
    refine Kit.Ev.pos (by omega) (Kit.Ev.pos (by omega) ?_)
    generalize rd_T58 plan (j : Int) = x at *
    rcases op_cases h1 with h | h | h | h | h | h | h | h | h | h | h | h <;> simp only [widthW, h, Int.reduceEq, Int.reduceLE, if_true, if_false, false_or, or_false, true_or, or_true, and_self, and_false, false_and, and_true, true_and, not_false_eq_true, forall_const] at A B W ⊢
    · exact Kit.Ev.const rfl
    · exact Kit.Ev.then A.1 (Kit.Ev.const rfl)
    · exact Kit.Ev.const rfl
    · exact Kit.Ev.then A.1 (Kit.Ev.const rfl)
    · exact Kit.Ev.then A.1 (Kit.Ev.const rfl)
    · refine Kit.Ev.then A.1 (Kit.Ev.then B.1 (Kit.Ev.const ?_))
      rw [Kit.w64 (x := _ + _) (by omega) (by omega), Kit.w64 (by omega) (by omega)]
    · exact Kit.Ev.const (by rw [Kit.w64 (by omega) (by omega)])
    · exact Kit.Ev.const (by rw [Kit.w64 (by omega) (by omega)])
    · exact Kit.Ev.const (by rw [Kit.w64 (by omega) (by omega)])
    · exact Kit.Ev.const (by rw [Kit.w64 (by omega) (by omega)])
    · exact Kit.Ev.then A.1 (Kit.Ev.const rfl)
    · exact Kit.Ev.then A.1 (Kit.Ev.const rfl)
theorem specReads_eq {x : S58} : spec_l3Reads.f x.f0 = some ((readsL x).length : Int) := by
  unfold spec_l3Reads.f readsL
  by_cases h1 : x.f0 = 1
  · rw [if_pos h1, if_pos h1]; rfl
  · by_cases h4 : x.f0 = 4
    · rw [if_neg h1, if_neg h1, if_pos h4, if_pos (Or.inl h4)]; rfl
    · by_cases h6 : x.f0 = 6
      · rw [if_neg h1, if_neg h1, if_neg h4, if_pos h6, if_pos (Or.inr h6)]; rfl
      · rw [if_neg h1, if_neg h1, if_neg h4, if_neg h6, if_neg (by omega)]; rfl
set_option maxHeartbeats 8000000 in
theorem specNamed_ev (a0 a1 a2 a3 a4 a5 : Int) (l6 : List Int) (h0 : 1 ≤ a0 ∧ a0 ≤ 12) : Ev (fun k => spec_l3Named.f k a0 a1 a2 a3 a4 a5 l6) (namedB a0 a1 a2 a3 a4 a5 l6) := by
  refine Kit.Ev.up (Kit.Ev.up (Kit.Ev.all (fun k => ?_)))
  have h6 : decide ((l6.length : Int) > 0) = !decide (l6 = []) := by cases l6 <;> simp <;> omega
  rcases op_cases h0 with rfl | rfl | rfl | rfl | rfl | rfl | rfl | rfl | rfl | rfl | rfl | rfl <;>
  simp only [spec_l3Named.f, spec_l3Named.j0, spec_l3Named.j1, spec_l3Reads.f, namedB, h6, Int.reduceEq, Int.reduceLT, if_true, if_false, Option.bind_some, Bool.false_eq_true, not_true_eq_false, not_false_eq_true, forall_const, false_or, or_false, true_or, or_true, and_self, and_false, false_and, and_true, true_and, false_implies] <;>
  by_cases c1 : a1 = 0 <;> by_cases c2 : a2 = 0 <;> by_cases c3 : a3 = 0 <;> by_cases c4 : a4 = 0 <;> by_cases c5 : a5 = 0 <;> by_cases c6 : l6 = [] <;> simp [c1, c2, c3, c4, c5, c6]
theorem specCells_l1 (w a0 a1 a2 a3 a4 a5 : Int) (l6 : List Int) (hw : -1000 ≤ w ∧ w ≤ 1000) (hn : l6.length ≤ 1048576) : ∀ (d i : Nat), i + d = l6.length → Ev (fun k => spec_l3Node.l1 k w (i : Int) a0 a1 a2 a3 a4 a5 l6) (if (l6.drop i).all (cellOk w) = true then 0 else 3) := by
  intro d
  induction d with
  | zero =>
    intro i hd
    refine Kit.Ev.up ?_
    simp only [spec_l3Node.l1]
    refine Kit.Ev.neg (by omega) (Kit.Ev.const ?_)
    rw [List.drop_eq_nil_of_le (by omega)]; simp
  | succ d ih =>
    intro i hd
    refine Kit.Ev.up ?_
    simp only [spec_l3Node.l1]
    refine Kit.Ev.pos (by omega) (Kit.Ev.pos (by omega) ?_)
    rw [rd_drop (xs := l6) (i := i) (by omega), w64n (n := l6.length) (by omega) (by omega), specIn_eq, Kit.w64 (x := w - 1) (by omega) (by omega)]
    simp only [Option.bind_some]
    refine Kit.Ev.ite (fun h => ?_) (fun h => Kit.Ev.const ?_)
    · exact (ih (i + 1) (by omega)).eq (by have h' : cellOk w (rd l6 (i : Int)) = true := h; simp [h'])
    · have h' : ¬ cellOk w (rd l6 (i : Int)) = true := h
      simp [h']
theorem specNode_tail {plan : List S58} {i : Nat} (hi : i < plan.length) (hg : GoodN plan i) {x : S58} (h1 : 1 ≤ x.f0 ∧ x.f0 ≤ 12) (h3 : (readsL x).all (readOk plan i) = true) (hl : x.f6.length ≤ 1048576) :
    Ev (fun k => spec_l3Node.l0 k plan (i : Int) ((readsL x).length : Int) x.f0 x.f1 x.f2 x.f3 x.f4 x.f5 x.f6) (faultW (wsN plan i) x) := by
  have A : ¬ x.f0 = 1 → Ev (fun k => spec_l3Width.f k plan x.f1) (rd (wsN plan i) x.f1) ∧ 1 ≤ rd (wsN plan i) x.f1 ∧ rd (wsN plan i) x.f1 ≤ 4 := fun h => by
    obtain ⟨a, ea, ha, _⟩ := reads_a h3 h
    rw [← ea, wsN_rd plan ha]
    exact ⟨specWidthN_ev (by omega) hg i a ha ha, wOf_in hg i a ha ha⟩
  have B : x.f0 = 4 ∨ x.f0 = 6 → Ev (fun k => spec_l3Width.f k plan x.f2) (rd (wsN plan i) x.f2) ∧ 1 ≤ rd (wsN plan i) x.f2 ∧ rd (wsN plan i) x.f2 ≤ 4 := fun h => by
    obtain ⟨a, ea, ha, _⟩ := reads_b h3 h
    rw [← ea, wsN_rd plan ha]
    exact ⟨specWidthN_ev (by omega) hg i a ha ha, wOf_in hg i a ha ha⟩
  refine Kit.Ev.up ?_
  simp only [spec_l3Node.l0]
  refine Kit.Ev.call specReads_eq (Kit.Ev.neg (by omega) ?_)
  have mnE : ∀ a b : Int, spec_l1Min.f a b = some (min a b) := fun a b => by
    unfold spec_l1Min.f
    by_cases c : a < b
    · rw [if_pos c]; congr 1; omega
    · rw [if_neg c]; congr 1; omega
  rcases op_cases h1 with h | h | h | h | h | h | h | h | h | h | h | h <;> simp only [faultW, h, Int.reduceEq, Int.reduceLE, if_true, if_false, false_or, or_false, true_or, or_true, and_self, and_false, false_and, and_true, true_and, not_false_eq_true, forall_const] at A B ⊢
  · exact Kit.Ev.call (specIn_eq _ _ _) (evDec (fun _ => Kit.Ev.const rfl) (fun _ => Kit.Ev.const rfl))
  · refine Kit.Ev.then A.1 (Kit.Ev.call (specIn_eq _ _ _) ?_)
    rw [Kit.w64 (by omega) (by omega)]
    refine evDec (fun _ => Kit.Ev.call (specIn_eq _ _ _) (evDec (fun _ => Kit.Ev.call (specIn_eq _ _ _) (evDec (fun _ => Kit.Ev.const rfl) (fun _ => Kit.Ev.const rfl))) (fun _ => Kit.Ev.const rfl))) (fun _ => Kit.Ev.const rfl)
  · refine Kit.Ev.then A.1 ?_
    by_cases c : 1 ≤ (x.f6.length : Int) ∧ (x.f6.length : Int) ≤ 4
    · rw [if_pos c]
      refine Kit.Ev.neg (by omega) (Kit.Ev.up ?_)
      simp only [spec_l3Node.j1]
      refine Kit.Ev.neg (by simp; omega) ?_
      exact (specCells_l1 _ _ _ _ _ _ _ _ (by omega) hl x.f6.length 0 (by omega)).eq (by simp)
    · rw [if_neg c]
      refine Kit.Ev.ite (fun _ => Kit.Ev.up ?_) (fun _ => Kit.Ev.up ?_) <;> simp only [spec_l3Node.j1]
      · exact Kit.Ev.pos trivial (Kit.Ev.const rfl)
      · exact Kit.Ev.pos (by simp; omega) (Kit.Ev.const rfl)
  · exact Kit.Ev.then A.1 (Kit.Ev.then B.1 (Kit.Ev.ite2 (fun _ => Kit.Ev.const rfl) (fun _ => Kit.Ev.const rfl)))
  · refine Kit.Ev.then A.1 (Kit.Ev.up ?_)
    simp only [spec_l3Node.j3]
    exact Kit.Ev.neg (by decide) (Kit.Ev.const rfl)
  · refine Kit.Ev.then A.1 (Kit.Ev.then B.1 (Kit.Ev.call (mnE _ _) (Kit.Ev.call (specIn_eq _ _ _) ?_)))
    refine evDec (fun c => ?_) (fun _ => Kit.Ev.const rfl)
    rw [Kit.w64 (x := rd (wsN plan i) x.f1 + rd (wsN plan i) x.f2) (by omega) (by omega), Kit.w64 (by omega) (by omega)]
    exact Kit.Ev.ite2 (fun _ => Kit.Ev.const rfl) (fun _ => Kit.Ev.const rfl)
  · refine Kit.Ev.then A.1 (Kit.Ev.call (mnE _ _) (Kit.Ev.call (specIn_eq _ _ _) ?_))
    exact evDec (fun _ => Kit.Ev.const rfl) (fun _ => Kit.Ev.const rfl)
  · refine Kit.Ev.then A.1 (Kit.Ev.up ?_)
    simp only [spec_l3Node.j3]
    refine Kit.Ev.pos (by decide) (Kit.Ev.call (specIn_eq _ _ _) ?_)
    rw [Kit.w64 (by omega) (by omega)]
    exact evDec (fun _ => Kit.Ev.const rfl) (fun _ => Kit.Ev.const rfl)
  · refine Kit.Ev.then A.1 (Kit.Ev.up ?_)
    simp only [spec_l3Node.j3]
    refine Kit.Ev.pos (by decide) (Kit.Ev.call (specIn_eq _ _ _) ?_)
    rw [Kit.w64 (by omega) (by omega)]
    exact evDec (fun _ => Kit.Ev.const rfl) (fun _ => Kit.Ev.const rfl)
  · refine Kit.Ev.then A.1 (Kit.Ev.up ?_)
    simp only [spec_l3Node.j3]
    refine Kit.Ev.pos (by decide) (Kit.Ev.call (specIn_eq _ _ _) ?_)
    rw [Kit.w64 (by omega) (by omega)]
    exact evDec (fun _ => Kit.Ev.const rfl) (fun _ => Kit.Ev.const rfl)
  · refine Kit.Ev.then A.1 (Kit.Ev.up ?_)
    simp only [spec_l3Node.j3]
    exact Kit.Ev.neg (by decide) (Kit.Ev.const rfl)
  · refine Kit.Ev.then A.1 (Kit.Ev.up ?_)
    simp only [spec_l3Node.j3]
    exact Kit.Ev.neg (by decide) (Kit.Ev.const rfl)
/-- One thing that a node reads from is looked at. -/
theorem specNode_read {plan : List S58} {i : Nat} (hi : i < plan.length) (hn : plan.length ≤ 1048576) {v r : Int} {f : Nat → Option Int} (hf : readOk plan i v = true → Ev f r) :
    Ev (fun k => (spec_l1In.f v 0 (wrap64 ((i : Int) - 1))).bind fun t => if t = true then (if 0 ≤ v then (if v < (plan.length : Int) then (if (rd_T58 plan v).f0 = 12 then some 3 else f k) else none) else none) else some 3) (if readOk plan i v = true then r else 3) := by
  refine Kit.Ev.call (specIn_eq _ _ _) ?_
  rw [Kit.w64 (by omega) (by omega)]
  by_cases c : 0 ≤ v ∧ v ≤ (i : Int) - 1
  · refine Kit.Ev.pos (decide_eq_true c) (Kit.Ev.pos c.1 (Kit.Ev.pos (by omega) ?_))
    by_cases c2 : (rd_T58 plan v).f0 = 12
    · refine Kit.Ev.pos c2 (Kit.Ev.const ?_)
      rw [if_neg (by simp [readOk, c2])]
    · refine Kit.Ev.neg c2 ?_
      have hr : readOk plan i v = true := by simp [readOk, c2]; omega
      rw [if_pos hr]
      exact hf hr
  · refine Kit.Ev.neg (by simpa using c) (Kit.Ev.const ?_)
    rw [if_neg (by simp only [readOk, Bool.and_eq_true, decide_eq_true_eq]; intro h; exact c h.1)]
theorem specNode_ev {plan : List S58} (hx : FineN plan) {i : Nat} (hi : i < plan.length) (hg : GoodN plan i) : Ev (fun k => spec_l3Node.f k plan (i : Int)) (codeN plan i) := by
  have hl := hx.2 _ (rdN_mem (xs := plan) (i := i) hi)
  have hn := hx.1
  unfold spec_l3Node.f codeN
  refine Kit.Ev.pos (by omega) (Kit.Ev.pos (by omega) (Kit.Ev.call (specIn_eq _ _ _) ?_))
  generalize rd_T58 plan (i : Int) = x at *
  refine evDec (fun h1 => ?_) (fun _ => Kit.Ev.const rfl)
  refine Kit.Ev.then (specNamed_ev _ _ _ _ _ _ _ h1) ?_
  refine Kit.Ev.ite2 (fun _ => ?_) (fun _ => Kit.Ev.const rfl)
  have T : (readsL x).all (readOk plan i) = true → _ := fun h3 => specNode_tail hi hg h1 h3 hl
  unfold readsL at T ⊢
  by_cases c1 : x.f0 = 1
  · simp only [if_pos c1, List.all_nil, if_true, List.length_nil] at T ⊢
    exact T trivial
  · by_cases c2 : x.f0 = 4 ∨ x.f0 = 6
    · simp only [if_neg c1, if_pos c2, List.all_cons, List.all_nil, Bool.and_true, List.length_cons, List.length_nil] at T ⊢
      refine Kit.Ev.up ?_
      simp only [spec_l3Node.l0]
      refine Kit.Ev.call specReads_eq ?_
      have rl : ((readsL x).length : Int) = 2 := by unfold readsL; rw [if_neg c1, if_pos c2]; rfl
      rw [rl]
      refine Kit.Ev.pos (by omega) (Kit.Ev.neg (by omega) ?_)
      have e : (if (readOk plan i x.f1 && readOk plan i x.f2) = true then faultW (wsN plan i) x else 3) = (if readOk plan i x.f1 = true then (if readOk plan i x.f2 = true then faultW (wsN plan i) x else 3) else 3) := by
        by_cases d1 : readOk plan i x.f1 = true <;> by_cases d2 : readOk plan i x.f2 = true <;> simp [d1, d2]
      rw [e]
      refine specNode_read hi hn (fun r1 => ?_)
      rw [show wrap64 (0 + 1) = 1 from by rw [Kit.w64 (by omega) (by omega)]; rfl]
      refine Kit.Ev.up ?_
      simp only [spec_l3Node.l0]
      refine Kit.Ev.call specReads_eq ?_
      rw [rl]
      refine Kit.Ev.pos (by omega) (Kit.Ev.pos trivial ?_)
      refine specNode_read hi hn (fun r2 => ?_)
      rw [show wrap64 (1 + 1) = 2 from by rw [Kit.w64 (by omega) (by omega)]; rfl]
      exact T (by rw [r1, r2]; rfl)
    · simp only [if_neg c1, if_neg c2, List.all_cons, List.all_nil, Bool.and_true, List.length_cons, List.length_nil] at T ⊢
      refine Kit.Ev.up ?_
      simp only [spec_l3Node.l0]
      refine Kit.Ev.call specReads_eq ?_
      have rl : ((readsL x).length : Int) = 1 := by unfold readsL; rw [if_neg c1, if_neg c2]; rfl
      rw [rl]
      refine Kit.Ev.pos (by omega) (Kit.Ev.neg (by omega) ?_)
      refine specNode_read hi hn (fun r1 => ?_)
      rw [show wrap64 (0 + 1) = 1 from by rw [Kit.w64 (by omega) (by omega)]; rfl]
      exact T r1
theorem specPlan_l0 {plan : List S58} (hx : FineN plan) : ∀ (d i : Nat), i + d = plan.length → GoodN plan i → Ev (fun k => spec_PlanFault.l0 k plan (i : Int)) (planC plan d i)
  | 0, i, hd, hg => by
    refine Kit.Ev.up ?_
    simp only [spec_PlanFault.l0, planC]
    exact Kit.Ev.neg (by omega) (Kit.Ev.const rfl)
  | d + 1, i, hd, hg => by
    refine Kit.Ev.up ?_
    simp only [spec_PlanFault.l0, planC]
    refine Kit.Ev.pos (by omega) (Kit.Ev.then (specNode_ev hx (by omega) hg) (Kit.Ev.ite2 (fun h => ?_) (fun _ => Kit.Ev.const rfl)))
    rw [w64n (n := plan.length) (by omega) hx.n]
    refine specPlan_l0 hx d (i + 1) (by omega) (fun j hj => ?_)
    by_cases e : j = i
    · rw [e]; exact h
    · exact hg j (by omega)
theorem specPlan_ev {plan : List S58} (hx : FineN plan) : Ev (fun k => spec_PlanFault.f k plan) (planF plan) := by
  unfold spec_PlanFault.f planF
  by_cases c : 1 ≤ plan.length ∧ plan.length ≤ 8
  · rw [if_pos c]
    refine Kit.Ev.neg (by omega) (Kit.Ev.up ?_)
    simp only [spec_PlanFault.j0]
    exact Kit.Ev.neg (by simp; omega) (specPlan_l0 hx plan.length 0 (by omega) (fun j hj => by omega))
  · rw [if_neg c]
    refine Kit.Ev.ite (fun _ => Kit.Ev.up ?_) (fun _ => Kit.Ev.up ?_) <;> simp only [spec_PlanFault.j0]
    · exact Kit.Ev.pos trivial (Kit.Ev.const rfl)
    · exact Kit.Ev.pos (by simp; omega) (Kit.Ev.const rfl)
theorem specOf_l0 (op : Int) {xs : List S58} (hx : FineN xs) : ∀ (d i : Nat) (out : List Int), i + d = xs.length → out.length ≤ i → Ev (fun k => spec_l3Of.l0 k xs op out (i : Int)) (out ++ nodesL op (xs.drop i) i) := by
  have hl := hx.1
  intro d
  induction d with
  | zero =>
    intro i out hd _
    refine Kit.Ev.up ?_
    simp only [spec_l3Of.l0]
    refine Kit.Ev.neg (by omega) (Kit.Ev.const ?_)
    rw [List.drop_eq_nil_of_le (by omega)]; simp [nodesL]
  | succ d ih =>
    intro i out hd ho
    refine Kit.Ev.up ?_
    simp only [spec_l3Of.l0]
    rw [rdN_drop (xs := xs) (i := i) (by omega), w64n (n := xs.length) (by omega) hx.n]
    simp only [nodesL]
    refine Kit.Ev.pos (by omega) (Kit.Ev.pos (by omega) (Kit.Ev.ite (fun h => ?_) (fun h => ?_)))
    · rw [if_pos h]
      refine Kit.Ev.pos (by omega) ?_
      exact (ih (i + 1) _ (by omega) (by rw [List.length_append]; simp only [List.length_cons, List.length_nil]; omega)).eq (by simp)
    · rw [if_neg h]
      exact ih (i + 1) out (by omega) (by omega)
theorem specOf_ev (op : Int) {plan : List S58} (hx : FineN plan) : Ev (fun k => spec_l3Of.f k plan op) (nodesL op plan 0) := by
  unfold spec_l3Of.f
  exact (specOf_l0 op hx plan.length 0 [] (by omega) (by simp)).eq (by simp)
theorem cmpR_anti : ∀ xs ys : List Int, cmpR xs ys = - cmpR ys xs
  | [], [] => rfl
  | [], _ :: _ => rfl
  | _ :: _, [] => rfl
  | a :: xs, b :: ys => by
    simp only [cmpR]
    have ih := cmpR_anti xs ys
    by_cases h1 : a < b
    · rw [if_pos h1, if_neg (by omega), if_pos h1]
    · by_cases h2 : b < a
      · rw [if_neg h1, if_pos h2, if_pos h2]; rfl
      · rw [if_neg h1, if_neg h2, if_neg h2, if_neg h1]; exact ih
theorem specSet_l0 (xs : List S97) (hx : Fine xs) : ∀ (d i : Nat), i + d = xs.length → Ev (fun k => spec_SetFault.l0 k xs (i : Int)) (setG (prevE xs i) (xs.drop i)) := by
  have hn := hx.n
  intro d
  induction d with
  | zero =>
    intro i hd
    refine Kit.Ev.up ?_
    simp only [spec_SetFault.l0]
    refine Kit.Ev.neg (by omega) (Kit.Ev.const ?_)
    rw [List.drop_eq_nil_of_le (by omega)]; simp [setG]
  | succ d ih =>
    intro i hd
    have hm := hx.r _ (rdE_mem (xs := xs) (i := i) (by omega))
    have hj : ∀ b : Bool, b = ! decide (isW (rd_T97 xs (i : Int)).f1 = true ∧ (rd_T97 xs (i : Int)).f1 ≠ 0) → rowF (rd_T97 xs (i : Int)).f0 = 0 → Ev (fun k => spec_SetFault.j1 k xs (i : Int) b) (setG (prevE xs i) (xs.drop i)) := by
      intro b hb hrow
      rw [rdE_drop (xs := xs) (i := i) (by omega)]
      simp only [setG]
      rw [if_pos hrow]
      refine Kit.Ev.up ?_
      simp only [spec_SetFault.j1]
      by_cases hw : isW (rd_T97 xs (i : Int)).f1 = true ∧ (rd_T97 xs (i : Int)).f1 ≠ 0
      · rw [if_pos hw]
        refine Kit.Ev.neg (by rw [hb]; simp [hw]) ?_
        by_cases h0 : i = 0
        · subst h0
          refine Kit.Ev.neg (by omega) ?_
          rw [w64n (n := xs.length) (by omega) hn]
          have := ih 1 (by omega)
          rw [show prevE xs 1 = some (rd_T97 xs ((0 : Nat) : Int)).f0 from prevE_succ xs 0] at this
          simpa [prevE] using this
        · refine Kit.Ev.pos (by omega) (Kit.Ev.pos (by omega) (Kit.Ev.pos (by omega) ?_))
          rw [w64p (by omega) (by omega)]
          refine Kit.Ev.pos (by omega) (Kit.Ev.pos (by omega) ?_)
          refine Kit.Ev.then (specCmp_ev _ _ hm) ?_
          rw [w64n (n := xs.length) (by omega) hn, show prevE xs i = some (rd_T97 xs ((i - 1 : Nat) : Int)).f0 from by simp [prevE, h0]]
          dsimp only
          rw [cmpR_anti (rd_T97 xs ((i - 1 : Nat) : Int)).f0]
          refine Kit.Ev.ite (fun hc => Kit.Ev.const ?_) (fun hc => ?_)
          · rw [if_pos (by omega)]
          · rw [if_neg (by omega), ← prevE_succ]
            exact ih (i + 1) (by omega)
      · rw [if_neg hw]
        exact Kit.Ev.pos (by rw [hb]; simp only [hw, decide_false]; rfl) (Kit.Ev.const rfl)
    refine Kit.Ev.up ?_
    simp only [spec_SetFault.l0]
    refine Kit.Ev.pos (by omega) (Kit.Ev.pos (by omega) (Kit.Ev.then (specRow_ev _ hm) ?_))
    refine Kit.Ev.ite (fun hrow => ?_) (fun hrow => Kit.Ev.const ?_)
    · rw [specWeight_eq]
      simp only [Option.bind_some]
      refine Kit.Ev.ite (fun hw => hj _ ?_ hrow) (fun hw => hj _ ?_ hrow)
      · by_cases hz : (rd_T97 xs (i : Int)).f1 = 0 <;> simp [hw, hz]
      · simp [hw]
    · rw [rdE_drop (xs := xs) (i := i) (by omega)]
      simp only [setG]
      rw [if_neg hrow]
theorem specSet_ev (xs : List S97) (hx : Fine xs) : Ev (fun k => spec_SetFault.f k xs) (setF xs) := by
  unfold spec_SetFault.f setF
  refine Kit.Ev.ite (fun h => Kit.Ev.const ?_) (fun h => ?_)
  · rw [if_pos (by omega)]
  · rw [if_neg (by omega)]
    exact (specSet_l0 xs hx xs.length 0 (by omega)).eq (by simp [prevE])
theorem specWidth_l0 (xs : List S97) (hn : xs.length ≤ 9223372036854775807) (w : Int) : ∀ (d i : Nat), i + d = xs.length → Ev (fun k => spec_WidthFault.l0 k xs w (i : Int)) (if (xs.drop i).all (fun x => decide ((x.f0.length : Int) = w)) = true then 0 else 1) := by
  intro d
  induction d with
  | zero =>
    intro i hd
    refine Kit.Ev.up ?_
    simp only [spec_WidthFault.l0]
    refine Kit.Ev.neg (by omega) (Kit.Ev.const ?_)
    rw [List.drop_eq_nil_of_le (by omega)]; simp
  | succ d ih =>
    intro i hd
    refine Kit.Ev.up ?_
    simp only [spec_WidthFault.l0]
    refine Kit.Ev.pos (by omega) (Kit.Ev.pos (by omega) ?_)
    rw [rdE_drop (xs := xs) (i := i) (by omega), w64n (n := xs.length) (by omega) hn]
    refine Kit.Ev.ite (fun h => (ih (i + 1) (by omega)).eq ?_) (fun h => Kit.Ev.const ?_) <;> simp [h]
theorem specWidth_ev (xs : List S97) (hx : Fine xs) (w : Int) : Ev (fun k => spec_WidthFault.f k xs w) (widthF xs w) := by
  unfold spec_WidthFault.f widthF
  refine Kit.Ev.then (specSet_ev xs hx) (Kit.Ev.ite (fun h => ?_) (fun h => Kit.Ev.const ?_))
  · rw [if_pos h]; exact (specWidth_l0 xs hx.n w xs.length 0 (by omega)).eq (by simp)
  · rw [if_neg h]
theorem specInputs_l0 {plan : List S58} {ins : List (List S97)} (hx : FineN plan) (hy : FineSS ins) (ns : List Int) (hl : ns.length = ins.length) (hm : ∀ v ∈ ns, ∃ n : Nat, v = (n : Int) ∧ n < plan.length ∧ (rd_T58 plan (n : Int)).f0 = 1) : ∀ (d i : Nat), i + d = ns.length → Ev (fun k => spec_InputsFault.l0 k plan ins ns (i : Int)) (inputsC plan ins (ns.drop i) i) := by
  have hn := hy.1
  intro d
  induction d with
  | zero =>
    intro i hd
    refine Kit.Ev.up ?_
    simp only [spec_InputsFault.l0]
    refine Kit.Ev.neg (by omega) (Kit.Ev.const ?_)
    rw [List.drop_eq_nil_of_le (by omega)]; rfl
  | succ d ih =>
    intro i hd
    have hi : i < ns.length := by omega
    obtain ⟨n, h1, h2, h3⟩ := hm _ (rd_memI hi)
    have hf := hy.2 _ (List.getElem_mem (l := ins) (n := i) (by omega))
    rw [← rdREE (l := ins) (i := i) (by omega)] at hf
    refine Kit.Ev.up ?_
    simp only [spec_InputsFault.l0]
    rw [rd_drop (xs := ns) (i := i) hi, w64n (n := ns.length) hi (by omega)]
    simp only [inputsC]
    refine Kit.Ev.pos (by omega) (Kit.Ev.pos (by omega) (Kit.Ev.pos (by omega) (Kit.Ev.pos (by omega) (Kit.Ev.pos (by omega) (Kit.Ev.then (specWidth_ev _ hf _) (Kit.Ev.ite2 (fun _ => ?_) (fun _ => Kit.Ev.const rfl)))))))
    exact ih (i + 1) (by omega)
theorem specInputs_ev {plan : List S58} {ins : List (List S97)} (hx : FineN plan) (hy : FineSS ins) : Ev (fun k => spec_InputsFault.f k plan ins) (inputsF plan ins) := by
  unfold spec_InputsFault.f inputsF
  refine Kit.Ev.then (specPlan_ev hx) (Kit.Ev.ite2 (fun _ => Kit.Ev.then (specOf_ev 1 hx) ?_) (fun _ => Kit.Ev.const rfl))
  by_cases c : ins.length = (nodesL 1 plan 0).length
  · rw [if_pos c]
    refine Kit.Ev.pos (by omega) ?_
    exact (specInputs_l0 hx hy (nodesL 1 plan 0) c.symm (fun v hv => by obtain ⟨n, h1, h2, h3⟩ := nodesL_mem 1 plan 0 v hv; exact ⟨n, by rw [h1]; omega, h2, h3⟩) _ 0 (Nat.zero_add _)).eq (by simp)
  · rw [if_neg c]
    exact Kit.Ev.neg (by omega) (Kit.Ev.const rfl)
def plainT (a0 a1 a2 a3 a4 a5 : Int) (l6 : List Int) : Int × Int × Int × Int × Int × Int × List Int :=
  (a0, if a0 = 1 then 0 else a1, if a0 = 4 ∨ a0 = 6 then a2 else 0, if a0 = 3 ∨ a0 = 4 ∨ a0 = 5 ∨ a0 = 11 ∨ a0 = 12 then 0 else a3, if a0 = 2 then a4 else 0, if a0 = 2 then a5 else 0, if a0 = 3 then l6 else [])
theorem plain_ev (a0 a1 a2 a3 a4 a5 : Int) (l6 : List Int) (h0 : 1 ≤ a0 ∧ a0 ≤ 12) : Ev (fun k => impl_Node_plain.f k a0 a1 a2 a3 a4 a5 l6) (plainT a0 a1 a2 a3 a4 a5 l6) := by
  refine Kit.Ev.up (Kit.Ev.up (Kit.Ev.up (Kit.Ev.all (fun k => ?_))))
  rcases op_cases h0 with rfl | rfl | rfl | rfl | rfl | rfl | rfl | rfl | rfl | rfl | rfl | rfl <;>
  simp [impl_Node_plain.f, impl_Node_plain.j0, impl_Node_plain.j1, impl_Node_plain.j2, impl_twoSided.f, plainT]
theorem same_plain (a0 a1 a2 a3 a4 a5 : Int) (l6 : List Int) (hl : l6.length ≤ 1048576) :
    Ev (fun k => impl_sameNode.f k a0 a1 a2 a3 a4 a5 l6 (plainT a0 a1 a2 a3 a4 a5 l6).1 (plainT a0 a1 a2 a3 a4 a5 l6).2.1 (plainT a0 a1 a2 a3 a4 a5 l6).2.2.1 (plainT a0 a1 a2 a3 a4 a5 l6).2.2.2.1 (plainT a0 a1 a2 a3 a4 a5 l6).2.2.2.2.1 (plainT a0 a1 a2 a3 a4 a5 l6).2.2.2.2.2.1 (plainT a0 a1 a2 a3 a4 a5 l6).2.2.2.2.2.2) (namedB a0 a1 a2 a3 a4 a5 l6) := by
  unfold impl_sameNode.f
  simp only [plainT]
  have key : namedB a0 a1 a2 a3 a4 a5 l6 = (if a1 = (if a0 = 1 then 0 else a1) then (if a2 = (if a0 = 4 ∨ a0 = 6 then a2 else 0) then (if a3 = (if a0 = 3 ∨ a0 = 4 ∨ a0 = 5 ∨ a0 = 11 ∨ a0 = 12 then 0 else a3) then (if a4 = (if a0 = 2 then a4 else 0) then (if a5 = (if a0 = 2 then a5 else 0) then decide (l6 = (if a0 = 3 then l6 else [])) else false) else false) else false) else false) else false) := by
    have i1 : (a1 = (if a0 = 1 then 0 else a1)) ↔ (a0 = 1 → a1 = 0) := by by_cases h : a0 = 1 <;> simp [h]
    have i2 : (a2 = (if a0 = 4 ∨ a0 = 6 then a2 else 0)) ↔ (¬ (a0 = 4 ∨ a0 = 6) → a2 = 0) := by by_cases h : a0 = 4 ∨ a0 = 6 <;> simp [h]
    have i3 : (a3 = (if a0 = 3 ∨ a0 = 4 ∨ a0 = 5 ∨ a0 = 11 ∨ a0 = 12 then 0 else a3)) ↔ ((a0 = 3 ∨ a0 = 4 ∨ a0 = 5 ∨ a0 = 11 ∨ a0 = 12) → a3 = 0) := by by_cases h : a0 = 3 ∨ a0 = 4 ∨ a0 = 5 ∨ a0 = 11 ∨ a0 = 12 <;> simp [h]
    have i4 : (a4 = (if a0 = 2 then a4 else 0)) ↔ (¬ a0 = 2 → a4 = 0) := by by_cases h : a0 = 2 <;> simp [h]
    have i5 : (a5 = (if a0 = 2 then a5 else 0)) ↔ (¬ a0 = 2 → a5 = 0) := by by_cases h : a0 = 2 <;> simp [h]
    have i6 : (l6 = (if a0 = 3 then l6 else [])) ↔ (¬ a0 = 3 → l6 = []) := by by_cases h : a0 = 3 <;> simp [h]
    unfold namedB
    rw [Bool.eq_iff_iff]
    simp only [Bool.if_false_right, Bool.and_eq_true, decide_eq_true_eq]
    rw [i1, i2, i3, i4, i5, i6]
    constructor
    · rintro ⟨p1, p2, p45, p6, p3⟩; exact ⟨p1, p2, p3, fun h => (p45 h).1, fun h => (p45 h).2, p6⟩
    · rintro ⟨p1, p2, p3, p4, p5, p6⟩; exact ⟨p1, p2, fun h => ⟨p4 h, p5 h⟩, p6, p3⟩
  rw [key]
  refine Kit.Ev.pos trivial (Kit.Ev.ite2 (fun _ => Kit.Ev.ite2 (fun _ => Kit.Ev.ite2 (fun _ => Kit.Ev.ite2 (fun _ => Kit.Ev.ite2 (fun _ => ?_) (fun _ => Kit.Ev.const rfl)) (fun _ => Kit.Ev.const rfl)) (fun _ => Kit.Ev.const rfl)) (fun _ => Kit.Ev.const rfl)) (fun _ => Kit.Ev.const rfl))
  exact Kit.Ev.then (slicesEq_ev _ _ (by omega)) (Kit.Ev.const rfl)
theorem implReads_eq (x : S58) : impl_Node_reads.f x.f0 x.f1 x.f2 x.f3 x.f4 x.f5 x.f6 = some (readsL x) := by
  unfold impl_Node_reads.f readsL impl_twoSided.f
  by_cases h1 : x.f0 = 1
  · rw [if_pos h1, if_pos h1]
  · by_cases h4 : x.f0 = 4
    · rw [if_neg h1, if_neg h1, if_pos h4, if_pos (Or.inl h4)]; rfl
    · by_cases h6 : x.f0 = 6
      · rw [if_neg h1, if_neg h1, if_neg h4, if_pos (Or.inr h6)]; simp [h6]
      · rw [if_neg h1, if_neg h1, if_neg h4, if_neg (by omega)]; simp [h6]
theorem implWidthN_eq {ws : List Int} {x : S58} (h1 : 1 ≤ x.f0 ∧ x.f0 ≤ 12) (ha : ¬ x.f0 = 1 → 0 ≤ x.f1 ∧ x.f1 < (ws.length : Int) ∧ 1 ≤ rd ws x.f1 ∧ rd ws x.f1 ≤ 4) (hb : x.f0 = 4 ∨ x.f0 = 6 → 0 ≤ x.f2 ∧ x.f2 < (ws.length : Int) ∧ 1 ≤ rd ws x.f2 ∧ rd ws x.f2 ≤ 4) (h3 : ¬ x.f0 = 3 → ¬ x.f0 = 1 → -1000 ≤ x.f3 ∧ x.f3 ≤ 1000) :
    impl_Node_width.f x.f0 x.f1 x.f2 x.f3 x.f4 x.f5 x.f6 ws = some (widthW ws x) := by
  unfold impl_Node_width.f impl_grouped.f
  rw [implIn_eq]
  rcases op_cases h1 with h | h | h | h | h | h | h | h | h | h | h | h <;> simp only [widthW, impl_size_int64.f, h, Int.reduceEq, Int.reduceLE, if_true, if_false, false_or, or_false, true_or, or_true, and_self, and_false, false_and, and_true, true_and, not_false_eq_true, forall_const, Option.bind_some, decide_true, decide_false, Bool.false_eq_true] at ha hb h3 ⊢
  · rw [if_pos ha.1, if_pos ha.2.1]
  · rw [if_pos ha.1, if_pos ha.2.1]
  · rw [if_pos ha.1, if_pos ha.2.1]
  · rw [if_pos ha.1, if_pos ha.2.1, if_pos hb.1, if_pos hb.2.1, Kit.w64 (x := _ + _) (by omega) (by omega), Kit.w64 (by omega) (by omega)]
  · rw [Kit.w64 (by omega) (by omega)]
  · rw [Kit.w64 (by omega) (by omega)]
  · rw [Kit.w64 (by omega) (by omega)]
  · rw [Kit.w64 (by omega) (by omega)]
  · rw [if_pos ha.1, if_pos ha.2.1]
  · rw [if_pos ha.1, if_pos ha.2.1]
theorem implCells_l0 (ws : List Int) (a0 a1 a2 a3 a4 a5 : Int) (l6 l7 : List Int) (ha : 0 ≤ a1 ∧ a1 < (ws.length : Int)) (hw : -1000 ≤ rd ws a1 ∧ rd ws a1 ≤ 1000) (hn : l6.length ≤ 1048576) : ∀ (d i : Nat), i + d = l6.length → Ev (fun k => impl_Node_fault.l0 k ws l6 (l6.length : Int) (i : Int) a0 a1 a2 a3 a4 a5 l7) (if (l6.drop i).all (cellOk (rd ws a1)) = true then 0 else 3) := by
  intro d
  induction d with
  | zero =>
    intro i hd
    refine Kit.Ev.up ?_
    simp only [impl_Node_fault.l0]
    refine Kit.Ev.neg (by omega) (Kit.Ev.const ?_)
    rw [List.drop_eq_nil_of_le (by omega)]; simp
  | succ d ih =>
    intro i hd
    refine Kit.Ev.up ?_
    simp only [impl_Node_fault.l0]
    refine Kit.Ev.pos (by omega) (Kit.Ev.pos (by omega) (Kit.Ev.pos (by omega) (Kit.Ev.pos ha.1 (Kit.Ev.pos ha.2 ?_))))
    rw [rd_drop (xs := l6) (i := i) (by omega), w64n (n := l6.length) (by omega) (by omega), implIn_eq, Kit.w64 (x := rd ws a1 - 1) (by omega) (by omega)]
    simp only [Option.bind_some]
    refine Kit.Ev.ite (fun h => ?_) (fun h => Kit.Ev.const ?_)
    · exact (ih (i + 1) (by omega)).eq (by have h' : cellOk (rd ws a1) (rd l6 (i : Int)) = true := h; simp [h'])
    · have h' : ¬ cellOk (rd ws a1) (rd l6 (i : Int)) = true := h
      simp [h']
theorem implFaultN_ev {ws : List Int} {x : S58} (h1 : 1 ≤ x.f0 ∧ x.f0 ≤ 12) (ha : ¬ x.f0 = 1 → 0 ≤ x.f1 ∧ x.f1 < (ws.length : Int) ∧ 1 ≤ rd ws x.f1 ∧ rd ws x.f1 ≤ 4) (hb : x.f0 = 4 ∨ x.f0 = 6 → 0 ≤ x.f2 ∧ x.f2 < (ws.length : Int) ∧ 1 ≤ rd ws x.f2 ∧ rd ws x.f2 ≤ 4) (hl : x.f6.length ≤ 1048576) :
    Ev (fun k => impl_Node_fault.f k x.f0 x.f1 x.f2 x.f3 x.f4 x.f5 x.f6 ws) (faultW ws x) := by
  have mnE : ∀ a b : Int, mn a b = min a b := fun a b => by unfold mn; split <;> omega
  have WE : ∀ c : ¬ x.f0 = 3 → ¬ x.f0 = 1 → -1000 ≤ x.f3 ∧ x.f3 ≤ 1000, _ := fun c => implWidthN_eq h1 ha hb c
  unfold impl_Node_fault.f
  simp only [mnE]
  rcases op_cases h1 with h | h | h | h | h | h | h | h | h | h | h | h <;> simp only [faultW, impl_size_int64.f, h, Int.reduceEq, Int.reduceLE, if_true, if_false, false_or, or_false, true_or, or_true, and_self, and_false, false_and, and_true, true_and, not_false_eq_true, forall_const, Option.bind_some] at ha hb WE ⊢
  · exact Kit.Ev.call (implIn_eq _ _ _) (evDec (fun _ => Kit.Ev.const rfl) (fun _ => Kit.Ev.const rfl))
  · refine Kit.Ev.pos ha.1 (Kit.Ev.pos ha.2.1 (Kit.Ev.call (implIn_eq _ _ _) ?_))
    rw [Kit.w64 (by omega) (by omega)]
    refine evDec (fun _ => Kit.Ev.call (implIn_eq _ _ _) (evDec (fun _ => Kit.Ev.call (implIn_eq _ _ _) (evDec (fun _ => Kit.Ev.const rfl) (fun _ => Kit.Ev.const rfl))) (fun _ => Kit.Ev.const rfl))) (fun _ => Kit.Ev.const rfl)
  · refine Kit.Ev.call (implIn_eq _ _ _) (evDec (fun _ => ?_) (fun _ => Kit.Ev.const rfl))
    exact (implCells_l0 ws _ x.f1 _ _ _ _ x.f6 x.f6 ⟨ha.1, ha.2.1⟩ (by omega) hl x.f6.length 0 (by omega)).eq (by simp)
  · exact Kit.Ev.pos ha.1 (Kit.Ev.pos ha.2.1 (Kit.Ev.pos hb.1 (Kit.Ev.pos hb.2.1 (Kit.Ev.ite2 (fun _ => Kit.Ev.const rfl) (fun _ => Kit.Ev.const rfl)))))
  · refine Kit.Ev.up ?_
    simp only [impl_Node_fault.j1]
    exact Kit.Ev.neg (by decide) (Kit.Ev.const rfl)
  · refine Kit.Ev.pos ha.1 (Kit.Ev.pos ha.2.1 (Kit.Ev.pos hb.1 (Kit.Ev.pos hb.2.1 (Kit.Ev.call (implIn_eq _ _ _) ?_))))
    refine evDec (fun c => ?_) (fun _ => Kit.Ev.const rfl)
    refine Kit.Ev.call (WE (by omega)) ?_
    have e : widthW ws x = rd ws x.f1 + rd ws x.f2 - x.f3 := by simp [widthW, h]
    rw [e]
    exact Kit.Ev.ite2 (fun _ => Kit.Ev.const rfl) (fun _ => Kit.Ev.const rfl)
  · exact Kit.Ev.pos ha.1 (Kit.Ev.pos ha.2.1 (Kit.Ev.call (implIn_eq _ _ _) (evDec (fun _ => Kit.Ev.const rfl) (fun _ => Kit.Ev.const rfl))))
  · refine Kit.Ev.up ?_
    simp only [impl_Node_fault.j1]
    refine Kit.Ev.pos (by decide) (Kit.Ev.pos ha.1 (Kit.Ev.pos ha.2.1 (Kit.Ev.call (implIn_eq _ _ _) ?_)))
    rw [Kit.w64 (by omega) (by omega)]
    exact evDec (fun _ => Kit.Ev.const rfl) (fun _ => Kit.Ev.const rfl)
  · refine Kit.Ev.up ?_
    simp only [impl_Node_fault.j1]
    refine Kit.Ev.pos (by decide) (Kit.Ev.pos ha.1 (Kit.Ev.pos ha.2.1 (Kit.Ev.call (implIn_eq _ _ _) ?_)))
    rw [Kit.w64 (by omega) (by omega)]
    exact evDec (fun _ => Kit.Ev.const rfl) (fun _ => Kit.Ev.const rfl)
  · refine Kit.Ev.up ?_
    simp only [impl_Node_fault.j1]
    refine Kit.Ev.pos (by decide) (Kit.Ev.pos ha.1 (Kit.Ev.pos ha.2.1 (Kit.Ev.call (implIn_eq _ _ _) ?_)))
    rw [Kit.w64 (by omega) (by omega)]
    exact evDec (fun _ => Kit.Ev.const rfl) (fun _ => Kit.Ev.const rfl)
  · refine Kit.Ev.up ?_
    simp only [impl_Node_fault.j1]
    exact Kit.Ev.neg (by decide) (Kit.Ev.const rfl)
  · refine Kit.Ev.up ?_
    simp only [impl_Node_fault.j1]
    exact Kit.Ev.neg (by decide) (Kit.Ev.const rfl)
def lookR (plan : List S58) (c : Int) : List Int × Int := if c = 0 then (wsN plan plan.length, 0) else ([], c)
def lookF (plan : List S58) : List Int × Int := lookR plan (planF plan)
theorem fault_f3 {ws : List Int} {x : S58} (h1 : 1 ≤ x.f0 ∧ x.f0 ≤ 12) (hm : named x = true) (hf : faultW ws x = 0) (ha : ¬ x.f0 = 1 → 1 ≤ rd ws x.f1 ∧ rd ws x.f1 ≤ 4) : ¬ x.f0 = 3 → ¬ x.f0 = 1 → -1000 ≤ x.f3 ∧ x.f3 ≤ 1000 := by
  intro n3 n1
  have hz := (of_decide_eq_true (show decide _ = true from hm)).2.2.2.2
  rcases op_cases h1 with h | h | h | h | h | h | h | h | h | h | h | h <;> simp only [faultW, h, Int.reduceEq, Int.reduceLE, if_true, if_false, false_or, or_false, true_or, or_true, and_self, and_false, false_and, and_true, true_and, not_false_eq_true, forall_const, not_true_eq_false] at hf ha hz n3 n1
  all_goals (repeat' split at hf)
  all_goals first | omega | (have := hz trivial; omega)
theorem looked_reads {plan ws : List S58} {wl : List Int} {i : Nat} {a0 a1 a2 a3 a4 a5 : Int} {l6 : List Int} {x16 x17 : Int} (hi : i < plan.length) (hn : plan.length ≤ 1048576) (rs : List Int) (hrs : rs.length ≤ 1048576) {r : List Int × Int}
    (hend : rs.all (readOk plan i) = true → Ev (fun k => (impl_Node_fault.f k a0 a1 a2 a3 a4 a5 l6 wl).bind fun t232 => if t232 = 0 then ((impl_Node_width.f a0 a1 a2 a3 a4 a5 l6 wl).bind fun t233 => if wl.length < 17592186044416 then impl_looked.l0 k plan (wl ++ [t233]) ws x16 (wrap64 (x17 + 1)) else none) else some (([] : List Int), t232)) r) :
    ∀ (d q : Nat), q + d = rs.length → (∀ v ∈ rs.take q, readOk plan i v = true) → Ev (fun k => impl_looked.l1 k plan wl (i : Int) ws x16 x17 rs (rs.length : Int) (q : Int) a0 a1 a2 a3 a4 a5 l6) (if (rs.drop q).all (readOk plan i) = true then r else ([], 3)) := by
  intro d
  induction d with
  | zero =>
    intro q hd hp
    refine Kit.Ev.up ?_
    simp only [impl_looked.l1]
    refine Kit.Ev.neg (by omega) ?_
    rw [List.drop_eq_nil_of_le (by omega)]
    rw [List.take_of_length_le (by omega)] at hp
    exact (hend (List.all_eq_true.mpr hp)).eq (by simp)
  | succ d ih =>
    intro q hd hp
    refine Kit.Ev.up ?_
    simp only [impl_looked.l1]
    refine Kit.Ev.pos (by omega) (Kit.Ev.pos (by omega) (Kit.Ev.pos (by omega) (Kit.Ev.call (implIn_eq _ _ _) ?_)))
    rw [rd_drop (xs := rs) (i := q) (by omega), Kit.w64 (x := (i : Int) - 1) (by omega) (by omega), w64n (n := rs.length) (by omega) (by omega)]
    by_cases c : 0 ≤ rd rs (q : Int) ∧ rd rs (q : Int) ≤ (i : Int) - 1
    · refine Kit.Ev.pos (decide_eq_true c) (Kit.Ev.pos c.1 (Kit.Ev.pos (by omega) ?_))
      by_cases c2 : (rd_T58 plan (rd rs (q : Int))).f0 = 12
      · refine Kit.Ev.pos c2 (Kit.Ev.const ?_)
        rw [if_neg (by simp [readOk, c2])]
      · have hr : readOk plan i (rd rs (q : Int)) = true := by simp [readOk, c2]; omega
        refine Kit.Ev.neg c2 ((ih (q + 1) (by omega) (fun v hv => ?_)).eq (by simp [hr]))
        rw [List.take_add_one, List.getElem?_eq_getElem (by omega), ← Kit.rd_at (by omega)] at hv
        rcases List.mem_append.mp hv with h1 | h1
        · exact hp v h1
        · simp at h1; rw [h1]; exact hr
    · refine Kit.Ev.neg (by simpa using c) (Kit.Ev.const ?_)
      rw [if_neg]
      simp only [List.all_cons, Bool.and_eq_true, readOk, decide_eq_true_eq]
      intro h
      exact c h.1.1
theorem implLooked_l0 {plan : List S58} (hx : FineN plan) : ∀ (d i : Nat), i + d = plan.length → GoodN plan i → Ev (fun k => impl_looked.l0 k plan (wsN plan i) plan (plan.length : Int) (i : Int)) (lookR plan (planC plan d i))
  | 0, i, hd, hg => by
    refine Kit.Ev.up ?_
    simp only [impl_looked.l0]
    obtain rfl : i = plan.length := by omega
    exact Kit.Ev.neg (by omega) (Kit.Ev.const rfl)
  | d + 1, i, hd, hg => by
    have hn := hx.1
    have hi : i < plan.length := by omega
    have hl := hx.2 _ (rdN_mem (xs := plan) (i := i) hi)
    have IH : codeN plan i = 0 → _ := fun h => implLooked_l0 hx d (i + 1) (by omega) (fun j hj => by
      by_cases e : j = i
      · rw [e]; exact h
      · exact hg j (by omega))
    have e1 : wsN plan (i + 1) = wsN plan i ++ [widthW (wsN plan i) (rd_T58 plan (i : Int))] := rfl
    rw [e1] at IH
    have hp : planC plan (d + 1) i = if codeN plan i = 0 then planC plan d (i + 1) else codeN plan i := rfl
    rw [hp]
    refine Kit.Ev.up ?_
    simp only [impl_looked.l0]
    refine Kit.Ev.pos (by omega) (Kit.Ev.pos (by omega) (Kit.Ev.pos (by omega) (Kit.Ev.call (implIn_eq _ _ _) ?_)))
    have hc := codeN_eq plan i
    generalize rd_T58 plan (i : Int) = x at *
    by_cases h1 : 1 ≤ x.f0 ∧ x.f0 ≤ 12
    · rw [if_pos h1] at hc
      refine Kit.Ev.pos (decide_eq_true h1) (Kit.Ev.then (plain_ev _ _ _ _ _ _ _ h1) (Kit.Ev.then (same_plain _ _ _ _ _ _ _ hl) ?_))
      by_cases h2 : named x = true
      · rw [if_pos h2] at hc
        refine Kit.Ev.pos h2 (Kit.Ev.call (implReads_eq x) ?_)
        have rl : (readsL x).length ≤ 1048576 := by
          unfold readsL
          split
          · simp
          · split <;> simp
        have L := looked_reads (ws := plan) (wl := wsN plan i) (x16 := (plan.length : Int)) (x17 := (i : Int)) (a0 := x.f0) (a1 := x.f1) (a2 := x.f2) (a3 := x.f3) (a4 := x.f4) (a5 := x.f5) (l6 := x.f6) hi hn (readsL x) rl (r := if faultW (wsN plan i) x = 0 then lookR plan (planC plan d (i + 1)) else ([], faultW (wsN plan i) x)) (fun h3 => by
          have A : ¬ x.f0 = 1 → 0 ≤ x.f1 ∧ x.f1 < ((wsN plan i).length : Int) ∧ 1 ≤ rd (wsN plan i) x.f1 ∧ rd (wsN plan i) x.f1 ≤ 4 := fun h => by
            obtain ⟨a, ea, ha, _⟩ := reads_a h3 h
            rw [wsN_len, ← ea, wsN_rd plan ha]
            have := wOf_in hg i a ha ha
            omega
          have B : x.f0 = 4 ∨ x.f0 = 6 → 0 ≤ x.f2 ∧ x.f2 < ((wsN plan i).length : Int) ∧ 1 ≤ rd (wsN plan i) x.f2 ∧ rd (wsN plan i) x.f2 ≤ 4 := fun h => by
            obtain ⟨a, ea, ha, _⟩ := reads_b h3 h
            rw [wsN_len, ← ea, wsN_rd plan ha]
            have := wOf_in hg i a ha ha
            omega
          refine Kit.Ev.then (implFaultN_ev h1 A B hl) (Kit.Ev.ite2 (fun hf => ?_) (fun _ => Kit.Ev.const rfl))
          refine Kit.Ev.call (implWidthN_eq h1 A B (fault_f3 h1 h2 hf (fun h => (A h).2.2))) (Kit.Ev.pos (by rw [wsN_len]; omega) ?_)
          rw [w64n (n := plan.length) (by omega) hx.n]
          rw [if_pos h3] at hc
          exact IH (by rw [hc]; exact hf)) (readsL x).length 0 (by omega) (by simp)
        refine L.eq ?_
        rw [List.drop_zero]
        by_cases h3 : (readsL x).all (readOk plan i) = true
        · rw [if_pos h3] at hc ⊢
          rw [hc]
          by_cases hf : faultW (wsN plan i) x = 0
          · rw [if_pos hf, if_pos hf]
          · rw [if_neg hf, if_neg hf]; unfold lookR; rw [if_neg hf]
        · rw [if_neg h3] at hc ⊢
          rw [hc]; rfl
      · rw [if_neg h2] at hc
        refine Kit.Ev.neg h2 (Kit.Ev.const ?_)
        rw [hc]; rfl
    · rw [if_neg h1] at hc
      refine Kit.Ev.neg (by simpa using h1) (Kit.Ev.const ?_)
      rw [hc]; rfl
theorem implLooked_ev {plan : List S58} (hx : FineN plan) : Ev (fun k => impl_looked.f k plan) (lookF plan) := by
  unfold impl_looked.f lookF planF
  refine Kit.Ev.call (a := (plan.length : Int)) rfl (Kit.Ev.call (implIn_eq _ _ _) ?_)
  by_cases c : 1 ≤ plan.length ∧ plan.length ≤ 8
  · refine Kit.Ev.pos (by simp; omega) ?_
    rw [if_pos c]
    exact implLooked_l0 hx plan.length 0 (by omega) (fun j hj => by omega)
  · refine Kit.Ev.neg (by simp; omega) (Kit.Ev.const ?_)
    rw [if_neg c]; rfl
theorem lookF_good {plan : List S58} (h : planF plan = 0) : lookF plan = (wsN plan plan.length, 0) := by
  unfold lookF lookR
  rw [if_pos h]
theorem implOf_l0 (op : Int) {xs : List S58} (hx : FineN xs) : ∀ (d i : Nat) (out : List Int), i + d = xs.length → out.length ≤ i → Ev (fun k => impl_nodesOf.l0 k op out xs (xs.length : Int) (i : Int)) (out ++ nodesL op (xs.drop i) i) := by
  have hl := hx.1
  intro d
  induction d with
  | zero =>
    intro i out hd _
    refine Kit.Ev.up ?_
    simp only [impl_nodesOf.l0]
    refine Kit.Ev.neg (by omega) (Kit.Ev.const ?_)
    rw [List.drop_eq_nil_of_le (by omega)]; simp [nodesL]
  | succ d ih =>
    intro i out hd ho
    refine Kit.Ev.up ?_
    simp only [impl_nodesOf.l0]
    rw [rdN_drop (xs := xs) (i := i) (by omega), w64n (n := xs.length) (by omega) hx.n]
    simp only [nodesL]
    refine Kit.Ev.pos (by omega) (Kit.Ev.pos (by omega) (Kit.Ev.pos (by omega) (Kit.Ev.ite (fun h => ?_) (fun h => ?_))))
    · rw [if_pos h]
      refine Kit.Ev.pos (by omega) ?_
      exact (ih (i + 1) _ (by omega) (by rw [List.length_append]; simp only [List.length_cons, List.length_nil]; omega)).eq (by simp)
    · rw [if_neg h]
      exact ih (i + 1) out (by omega) (by omega)
theorem implOf_ev (op : Int) {plan : List S58} (hx : FineN plan) : Ev (fun k => impl_nodesOf.f k plan op) (nodesL op plan 0) := by
  unfold impl_nodesOf.f
  exact (implOf_l0 op hx plan.length 0 [] (by omega) (by simp)).eq (by simp)
theorem implSet_l0 (xs : List S97) (hx : Fine xs) : ∀ (d i : Nat), i + d = xs.length → Ev (fun k => impl_SetFault.l0 k xs xs (xs.length : Int) (i : Int)) (setG (prevE xs i) (xs.drop i)) := by
  have hn := hx.n
  intro d
  induction d with
  | zero =>
    intro i hd
    refine Kit.Ev.up ?_
    simp only [impl_SetFault.l0]
    refine Kit.Ev.neg (by omega) (Kit.Ev.const ?_)
    rw [List.drop_eq_nil_of_le (by omega)]; simp [setG]
  | succ d ih =>
    intro i hd
    have hm := hx.r _ (rdE_mem (xs := xs) (i := i) (by omega))
    have hj : ∀ b : Bool, b = ! decide (isW (rd_T97 xs (i : Int)).f1 = true ∧ (rd_T97 xs (i : Int)).f1 ≠ 0) → rowF (rd_T97 xs (i : Int)).f0 = 0 → Ev (fun k => impl_SetFault.j1 k xs (i : Int) xs (xs.length : Int) (i : Int) b (rd_T97 xs (i : Int)).f0 (rd_T97 xs (i : Int)).f1) (setG (prevE xs i) (xs.drop i)) := by
      intro b hb hrow
      rw [rdE_drop (xs := xs) (i := i) (by omega)]
      simp only [setG]
      rw [if_pos hrow]
      refine Kit.Ev.up ?_
      simp only [impl_SetFault.j1]
      by_cases hw : isW (rd_T97 xs (i : Int)).f1 = true ∧ (rd_T97 xs (i : Int)).f1 ≠ 0
      · rw [if_pos hw]
        refine Kit.Ev.neg (by rw [hb]; simp [hw]) ?_
        by_cases h0 : i = 0
        · subst h0
          refine Kit.Ev.neg (by omega) ?_
          rw [w64n (n := xs.length) (by omega) hn]
          have := ih 1 (by omega)
          rw [show prevE xs 1 = some (rd_T97 xs ((0 : Nat) : Int)).f0 from prevE_succ xs 0] at this
          simpa [prevE] using this
        · refine Kit.Ev.pos (by omega) ?_
          rw [w64p (by omega) (by omega)]
          have hp := hx.r _ (rdE_mem (xs := xs) (i := i - 1) (by omega))
          refine Kit.Ev.pos (by omega) (Kit.Ev.pos (by omega) ?_)
          refine Kit.Ev.then (implCmp_ev _ _ hp) ?_
          rw [w64n (n := xs.length) (by omega) hn, show prevE xs i = some (rd_T97 xs ((i - 1 : Nat) : Int)).f0 from by simp [prevE, h0]]
          dsimp only
          refine Kit.Ev.ite (fun hc => Kit.Ev.const ?_) (fun hc => ?_)
          · rw [if_pos (by omega)]
          · rw [if_neg (by omega), ← prevE_succ]
            exact ih (i + 1) (by omega)
      · rw [if_neg hw]
        exact Kit.Ev.pos (by rw [hb]; simp only [hw, decide_false]; rfl) (Kit.Ev.const rfl)
    refine Kit.Ev.up ?_
    simp only [impl_SetFault.l0]
    refine Kit.Ev.pos (by omega) (Kit.Ev.pos (by omega) (Kit.Ev.pos (by omega) (Kit.Ev.then (implRow_ev _ hm) ?_)))
    refine Kit.Ev.ite (fun hrow => ?_) (fun hrow => Kit.Ev.const ?_)
    · rw [implWeight_eq]
      simp only [Option.bind_some]
      refine Kit.Ev.ite (fun hw => hj _ ?_ hrow) (fun hw => hj _ ?_ hrow)
      · by_cases hz : (rd_T97 xs (i : Int)).f1 = 0 <;> simp [hw, hz]
      · simp [hw]
    · rw [rdE_drop (xs := xs) (i := i) (by omega)]
      simp only [setG]
      rw [if_neg hrow]
theorem implSet_ev (xs : List S97) (hx : Fine xs) : Ev (fun k => impl_SetFault.f k xs) (setF xs) := by
  unfold impl_SetFault.f setF
  refine Kit.Ev.ite (fun h => Kit.Ev.const ?_) (fun h => ?_)
  · rw [if_pos (by omega)]
  · rw [if_neg (by omega)]
    exact (implSet_l0 xs hx xs.length 0 (by omega)).eq (by simp [prevE])
theorem implWidth_l0 (xs : List S97) (hn : xs.length ≤ 9223372036854775807) (w : Int) : ∀ (d i : Nat), i + d = xs.length → Ev (fun k => impl_WidthFault.l0 k w xs (xs.length : Int) (i : Int)) (if (xs.drop i).all (fun x => decide ((x.f0.length : Int) = w)) = true then 0 else 1) := by
  intro d
  induction d with
  | zero =>
    intro i hd
    refine Kit.Ev.up ?_
    simp only [impl_WidthFault.l0]
    refine Kit.Ev.neg (by omega) (Kit.Ev.const ?_)
    rw [List.drop_eq_nil_of_le (by omega)]; simp
  | succ d ih =>
    intro i hd
    refine Kit.Ev.up ?_
    simp only [impl_WidthFault.l0, impl_size_int64.f, Option.bind_some]
    refine Kit.Ev.pos (by omega) (Kit.Ev.pos (by omega) (Kit.Ev.pos (by omega) ?_))
    rw [rdE_drop (xs := xs) (i := i) (by omega), w64n (n := xs.length) (by omega) hn]
    refine Kit.Ev.ite (fun h => (ih (i + 1) (by omega)).eq ?_) (fun h => Kit.Ev.const ?_) <;> simp [h]
theorem implWidth_ev (xs : List S97) (hx : Fine xs) (w : Int) : Ev (fun k => impl_WidthFault.f k xs w) (widthF xs w) := by
  unfold impl_WidthFault.f widthF
  refine Kit.Ev.then (implSet_ev xs hx) (Kit.Ev.ite (fun h => ?_) (fun h => Kit.Ev.const ?_))
  · rw [if_pos h]; exact (implWidth_l0 xs hx.n w xs.length 0 (by omega)).eq (by simp)
  · rw [if_neg h]
theorem implInputs_l0 {plan : List S58} {ins : List (List S97)} (hx : FineN plan) (hy : FineSS ins) (ns : List Int) (hl : ns.length = ins.length) (hm : ∀ v ∈ ns, ∃ n : Nat, v = (n : Int) ∧ n < plan.length ∧ (rd_T58 plan (n : Int)).f0 = 1) : ∀ (d i : Nat), i + d = ns.length → Ev (fun k => impl_InputsFault.l0 k ins (wsN plan plan.length) ns (ns.length : Int) (i : Int)) (inputsC plan ins (ns.drop i) i) := by
  have hn := hy.1
  intro d
  induction d with
  | zero =>
    intro i hd
    refine Kit.Ev.up ?_
    simp only [impl_InputsFault.l0]
    refine Kit.Ev.neg (by omega) (Kit.Ev.const ?_)
    rw [List.drop_eq_nil_of_le (by omega)]; rfl
  | succ d ih =>
    intro i hd
    have hi : i < ns.length := by omega
    obtain ⟨n, h1, h2, h3⟩ := hm _ (rd_memI hi)
    have hf := hy.2 _ (List.getElem_mem (l := ins) (n := i) (by omega))
    rw [← rdREE (l := ins) (i := i) (by omega)] at hf
    have hw : rd (wsN plan plan.length) (rd ns (i : Int)) = (rd_T58 plan (rd ns (i : Int))).f3 := by
      rw [h1, wsN_rd plan h2]
      unfold wOf widthW
      rw [if_pos h3]
    have hlen := wsN_len plan plan.length
    refine Kit.Ev.up ?_
    simp only [impl_InputsFault.l0, hw]
    rw [rd_drop (xs := ns) (i := i) hi, w64n (n := ns.length) hi (by omega)]
    simp only [inputsC]
    refine Kit.Ev.pos (by omega) (Kit.Ev.pos (by omega) (Kit.Ev.pos (by omega) (Kit.Ev.pos (by omega) (Kit.Ev.pos (by omega) (Kit.Ev.pos (by omega) (Kit.Ev.then (implWidth_ev _ hf _) (Kit.Ev.ite2 (fun _ => ?_) (fun _ => Kit.Ev.const rfl))))))))
    exact ih (i + 1) (by omega)
theorem implInputs_ev {plan : List S58} {ins : List (List S97)} (hx : FineN plan) (hy : FineSS ins) : Ev (fun k => impl_InputsFault.f k plan ins) (inputsF plan ins) := by
  unfold impl_InputsFault.f inputsF
  refine Kit.Ev.then (implLooked_ev hx) ?_
  have e : (lookF plan).2 = planF plan := by
    unfold lookF lookR
    by_cases h : planF plan = 0
    · rw [if_pos h, h]
    · rw [if_neg h]
  rw [e]
  by_cases h : planF plan = 0
  · rw [if_pos h, lookF_good h]
    refine Kit.Ev.pos h (Kit.Ev.then (implOf_ev 1 hx) ?_)
    by_cases c : ins.length = (nodesL 1 plan 0).length
    · rw [if_pos c]
      refine Kit.Ev.pos (by omega) ?_
      exact (implInputs_l0 hx hy (nodesL 1 plan 0) c.symm (fun v hv => by obtain ⟨n, h1, h2, h3⟩ := nodesL_mem 1 plan 0 v hv; exact ⟨n, by rw [h1]; omega, h2, h3⟩) _ 0 (Nat.zero_add _)).eq (by simp)
    · rw [if_neg c]
      exact Kit.Ev.neg (by omega) (Kit.Ev.const rfl)
  · rw [if_neg h]
    exact Kit.Ev.neg h (Kit.Ev.const rfl)
theorem rdLN_at {xs : List S56} {i : Nat} (h : i < xs.length) : rd_T56 xs (i : Int) = xs[i] := by simp [rd_T56, h]
theorem rdLN_drop {xs : List S56} {i : Nat} (h : i < xs.length) : xs.drop i = rd_T56 xs (i : Int) :: xs.drop (i + 1) := by
  rw [rdLN_at h]; exact List.drop_eq_getElem_cons h
theorem rdLN_mem {xs : List S56} {i : Nat} (h : i < xs.length) : rd_T56 xs (i : Int) ∈ xs := by
  rw [rdLN_at h]; exact List.getElem_mem h
def convN (x : S56) : S58 := ⟨x.f0, x.f1, x.f2, x.f3, x.f4, x.f5, x.f6⟩
def szGoN : Int → List S56 → Int
  | t, [] => t
  | t, x :: xs => if t - (x.f6.length : Int) < 0 then -1 else szGoN (t - (x.f6.length : Int)) xs
def szN (t : Int) (l : List S56) : Int := if t - (l.length : Int) < 0 then -1 else szGoN (t - (l.length : Int)) l
theorem szGoN_le : ∀ (l : List S56) (t : Int), 0 ≤ szGoN t l → szGoN t l ≤ t ∧ ∀ x ∈ l, (x.f6.length : Int) ≤ t
  | [], t, h => ⟨Int.le_refl _, by simp⟩
  | x :: xs, t, h => by
    unfold szGoN at h ⊢
    by_cases hc : t - (x.f6.length : Int) < 0
    · rw [if_pos hc] at h; omega
    · rw [if_neg hc] at h ⊢
      have ih := szGoN_le xs _ h
      refine ⟨by omega, fun y hy => ?_⟩
      rcases List.mem_cons.1 hy with rfl | hy
      · omega
      · have := ih.2 y hy; omega
theorem szN_le {t : Int} {l : List S56} (h : 0 ≤ szN t l) : (l.length : Int) ≤ t ∧ szN t l ≤ t ∧ ∀ x ∈ l, (x.f6.length : Int) ≤ t := by
  unfold szN at h ⊢
  by_cases hc : t - (l.length : Int) < 0
  · rw [if_pos hc] at h; omega
  · rw [if_neg hc] at h ⊢
    have := szGoN_le l _ h
    refine ⟨by omega, by omega, fun x hx => ?_⟩
    have := this.2 x hx
    omega
theorem szInt_eqN {n : Nat} {l : List Int} {t : Int} (h0 : 0 ≤ t) (h1 : t ≤ 1048576) (hn : l.length = n) (hl : n ≤ 9223372036854775807) : laws_szInt64S.f l t = some (if t - (n : Int) < 0 then -1 else t - (n : Int)) := by
  unfold laws_szInt64S.f
  rw [hn, Kit.w64 (by omega) (by omega)]
  by_cases h : t - (n : Int) < 0
  · rw [if_pos h, if_pos h]
  · rw [if_neg h, if_neg h]
theorem szNode_eq {l : List Int} {a0 a1 a2 a3 a4 a5 t : Int} (h0 : 0 ≤ t) (h1 : t ≤ 1048576) (hl : l.length ≤ 9223372036854775807) : laws_szNode.f a0 a1 a2 a3 a4 a5 l t = some (if t - (l.length : Int) < 0 then -1 else t - (l.length : Int)) := by
  unfold laws_szNode.f
  rw [szInt_eqN h0 h1 rfl hl]
  simp only [Option.bind_some]
  by_cases h : t - (l.length : Int) < 0
  · rw [if_pos h, if_pos (by omega)]
  · rw [if_neg h, if_neg h]
theorem szNodeS_l0 (xs : List S56) (hn : xs.length ≤ 9223372036854775807) (hr : ∀ x ∈ xs, x.f6.length ≤ 9223372036854775807) : ∀ (d i : Nat) (t : Int), i + d = xs.length → 0 ≤ t → t ≤ 1048576 → Ev (fun k => laws_szNodeS.l0 k xs t (i : Int)) (szGoN t (xs.drop i)) := by
  intro d
  induction d with
  | zero =>
    intro i t hd h0 h1
    refine Kit.Ev.up ?_
    simp only [laws_szNodeS.l0]
    refine Kit.Ev.neg (by omega) (Kit.Ev.const ?_)
    rw [List.drop_eq_nil_of_le (by omega)]; rfl
  | succ d ih =>
    intro i t hd h0 h1
    refine Kit.Ev.up ?_
    simp only [laws_szNodeS.l0]
    refine Kit.Ev.pos (by omega) (Kit.Ev.pos (by omega) ?_)
    rw [rdLN_drop (xs := xs) (i := i) (by omega), w64n (n := xs.length) (by omega) hn, szNode_eq h0 h1 (hr _ (rdLN_mem (by omega)))]
    simp only [Option.bind_some, szGoN]
    by_cases h : t - ((rd_T56 xs (i : Int)).f6.length : Int) < 0
    · rw [if_pos h]; exact Kit.Ev.pos (by omega) (Kit.Ev.const (by rw [if_pos h]))
    · rw [if_neg h, if_neg h]
      exact Kit.Ev.neg h (ih (i + 1) _ (by omega) (by omega) (by omega))
theorem szNodeS_ev (xs : List S56) (hn : xs.length ≤ 9223372036854775807) (hr : ∀ x ∈ xs, x.f6.length ≤ 9223372036854775807) {t : Int} (h0 : 0 ≤ t) (h1 : t ≤ 1048576) : Ev (fun k => laws_szNodeS.f k xs t) (szN t xs) := by
  unfold laws_szNodeS.f szN
  rw [Kit.w64 (by omega) (by omega)]
  by_cases h : t - (xs.length : Int) < 0
  · rw [if_pos h]; exact Kit.Ev.pos h (Kit.Ev.const rfl)
  · rw [if_neg h]; exact Kit.Ev.neg h (szNodeS_l0 xs hn hr xs.length 0 _ (by omega) (by omega) (by omega))
theorem toNodeS_l0 (xs : List S56) (hn : xs.length ≤ 9223372036854775807) (hr : ∀ x ∈ xs, x.f6.length ≤ 1048576) : ∀ (d i : Nat) (ys : List S58), i + d = xs.length → ys.length = xs.length → (∀ j, j < i → ys[j]? = (xs.map convN)[j]?) → Ev (fun k => laws_toNodeS.l0 k xs ys (i : Int)) (xs.map convN) := by
  intro d
  induction d with
  | zero =>
    intro i ys hd hl he
    refine Kit.Ev.up ?_
    simp only [laws_toNodeS.l0]
    refine Kit.Ev.neg (by omega) (Kit.Ev.const ?_)
    congr 1
    apply List.ext_getElem?
    intro j
    by_cases hj : j < i
    · exact he j hj
    · rw [List.getElem?_eq_none (by omega), List.getElem?_eq_none (by rw [List.length_map]; omega)]
  | succ d ih =>
    intro i ys hd hl he
    refine Kit.Ev.up ?_
    simp only [laws_toNodeS.l0, laws_toNode.f]
    refine Kit.Ev.pos (by omega) (Kit.Ev.pos (by omega) ?_)
    have hm := rdLN_mem (xs := xs) (i := i) (by omega)
    refine Kit.Ev.then (a := ((rd_T56 xs (i : Int)).f0, (rd_T56 xs (i : Int)).f1, (rd_T56 xs (i : Int)).f2, (rd_T56 xs (i : Int)).f3, (rd_T56 xs (i : Int)).f4, (rd_T56 xs (i : Int)).f5, (rd_T56 xs (i : Int)).f6)) (Kit.Ev.then (toInt64S_ev _ (hr _ hm)) (Kit.Ev.const rfl)) ?_
    refine Kit.Ev.pos (by omega) ?_
    rw [w64n (n := xs.length) (by omega) hn, Int.toNat_natCast]
    refine ih (i + 1) _ (by omega) (by simpa using hl) (fun j hj => ?_)
    rw [List.getElem?_set]
    by_cases e : i = j
    · subst e
      rw [if_pos rfl, if_pos (by omega), List.getElem?_map, List.getElem?_eq_getElem (by omega), rdLN_at (by omega)]
      rfl
    · rw [if_neg e]
      exact he j (by omega)
theorem toNodeS_ev (xs : List S56) (hn : xs.length ≤ 1048576) (hr : ∀ x ∈ xs, x.f6.length ≤ 1048576) : Ev (fun k => laws_toNodeS.f k xs) (xs.map convN) := by
  unfold laws_toNodeS.f
  refine Kit.Ev.pos (by omega) (Kit.Ev.pos (by omega) ?_)
  exact toNodeS_l0 xs (by omega) hr xs.length 0 _ (by omega) (by simp) (fun j hj => by omega)
theorem eqNodeS_l0 (xs : List S58) (hn : xs.length ≤ 9223372036854775807) (hr : ∀ x ∈ xs, x.f6.length ≤ 9223372036854775807) : ∀ (d i : Nat), i + d = xs.length → Ev (fun k => laws_eqNodeS.l0 k xs xs (i : Int)) true := by
  intro d
  induction d with
  | zero =>
    intro i hd
    refine Kit.Ev.up ?_
    simp only [laws_eqNodeS.l0]
    exact Kit.Ev.neg (by omega) (Kit.Ev.const rfl)
  | succ d ih =>
    intro i hd
    refine Kit.Ev.up ?_
    simp only [laws_eqNodeS.l0, laws_eqNode.f]
    refine Kit.Ev.pos (by omega) (Kit.Ev.pos (by omega) (Kit.Ev.pos (by omega) ?_))
    have hm := rdN_mem (xs := xs) (i := i) (by omega)
    refine Kit.Ev.then (a := true) (Kit.Ev.pos trivial (Kit.Ev.pos trivial (Kit.Ev.pos trivial (Kit.Ev.pos trivial (Kit.Ev.pos trivial (Kit.Ev.pos trivial (Kit.Ev.then (eqInt64S_refl _ (hr _ hm)) (Kit.Ev.pos rfl (Kit.Ev.const rfl))))))))) ?_
    refine Kit.Ev.pos rfl ?_
    rw [w64n (n := xs.length) (by omega) hn]
    exact ih (i + 1) (by omega)
theorem eqNodeS_refl (xs : List S58) (hn : xs.length ≤ 9223372036854775807) (hr : ∀ x ∈ xs, x.f6.length ≤ 9223372036854775807) : Ev (fun k => laws_eqNodeS.f k xs xs) true := by
  unfold laws_eqNodeS.f
  exact Kit.Ev.pos rfl (eqNodeS_l0 xs hn hr xs.length 0 (by omega))
/-- What a law over one list of entries begins with: too much, or what is laid is as it came in. -/
theorem inputN_of {l : List S56} (hl : (fun l : List S56 => l.length ≤ maxLen ∧ ∀ y ∈ l, (fun x : S56 => (fun x : Int => (Lit.int .i64 x).wf = true) x.f0 ∧ (fun x : Int => (Lit.int .i64 x).wf = true) x.f1 ∧ (fun x : Int => (Lit.int .i64 x).wf = true) x.f2 ∧ (fun x : Int => (Lit.int .i64 x).wf = true) x.f3 ∧ (fun x : Int => (Lit.int .i64 x).wf = true) x.f4 ∧ (fun x : Int => (Lit.int .i64 x).wf = true) x.f5 ∧ (fun l : List Int => l.length ≤ maxLen ∧ ∀ y ∈ l, (fun x : Int => (Lit.int .i64 x).wf = true) y) x.f6) y) l) {t : Int} (h0 : 0 ≤ t) (h1 : t ≤ 1048576) :
    Ev (fun k => laws_szNodeS.f k l t) (szN t l) ∧ (¬ szN t l < 0 → szN t l ≤ 1048576 ∧ 0 ≤ szN t l ∧ FineN (l.map convN) ∧ Ev (fun k => laws_toNodeS.f k l) (l.map convN)) := by
  have hm : ∀ n : Nat, n ≤ maxLen → n ≤ 9223372036854775807 := fun n h => by simp only [maxLen] at h; omega
  refine ⟨szNodeS_ev l (hm _ hl.1) (fun x hx => hm _ (hl.2 x hx).2.2.2.2.2.2.1) h0 h1, fun h => ?_⟩
  have hb := szN_le (t := t) (l := l) (by omega)
  have hr : ∀ x ∈ l, x.f6.length ≤ 1048576 := fun x hx => by have := hb.2.2 x hx; omega
  refine ⟨by omega, by omega, ⟨by rw [List.length_map]; omega, fun x hx => ?_⟩, toNodeS_ev l (by omega) hr⟩
  obtain ⟨y, hy, rfl⟩ := List.mem_map.1 hx
  exact hr y hy
theorem FnExactInputsFault : laws_FnExactInputsFault.Pure := by
  intro l m hl _ hm _
  refine Kit.Ev.ex ?_
  unfold laws_FnExactInputsFault.f
  obtain ⟨hz, hin⟩ := inputN_of hl (t := 1048576) (by omega) (by omega)
  refine Kit.Ev.then hz (Kit.Ev.ite (fun _ => Kit.Ev.const rfl) (fun h => ?_))
  obtain ⟨h1, h0, hx, ht⟩ := hin h
  have hq : ∀ n : Nat, n ≤ maxLen → n ≤ 9223372036854775807 := fun n h => by simp only [maxLen] at h; omega
  obtain ⟨z, hz2, hb⟩ := szES_some m (hq _ hm.1) (fun e he => ⟨hq _ (hm.2 e he).1, fun x hx => hq _ ((hm.2 e he).2 x hx).1.1⟩) h0 h1
  refine Kit.Ev.then hz2 (Kit.Ev.ite (fun _ => Kit.Ev.const rfl) (fun h2 => ?_))
  obtain ⟨hb1, hb2⟩ := hb (by omega)
  have hE := toES_ev m hb1 hb2
  have hy : FineSS (m.map (List.map conv)) := by
    refine ⟨by rw [List.length_map]; exact hb1, fun e he => ?_⟩
    obtain ⟨y, hy, rfl⟩ := List.mem_map.1 he
    exact (hb2 y hy).fine
  refine Kit.Ev.then ht (Kit.Ev.then hE (Kit.Ev.then (specInputs_ev hx hy) (Kit.Ev.then ht (Kit.Ev.then hE (Kit.Ev.then (implInputs_ev hx hy) (Kit.Ev.pos rfl (Kit.Ev.then ht (Kit.Ev.then (eqNodeS_refl _ hx.n hx.r) (Kit.Ev.pos rfl (Kit.Ev.then hE (Kit.Ev.then (eqES_refl _ hy) ?_)))))))))))
  exact Kit.Ev.pos rfl (Kit.Ev.const rfl)

end Go.Proofs.Yteibdjkfkcckkaa.Pure
