/- The law FnExactWeightOf answers true for every list of entries and every row. -/
import Derived.Test.YthnbghcfjkmpoaaKit
import Derived.Test.YthnbghcfjkmpoaaPFnExactWeightOfx7
namespace Go.Proofs.Ythnbghcfjkmpoaa.Pure
open Go.RowKit Go.Proofs.Ythnbghcfjkmpoaa.PFnExactWeightOf Go.Proofs.YthnbghcfjkmpoaaW.PrintWords Go.Proofs.YthnbghcfjkmpoaaW.PrintLast Go.Proofs.Ythnbghcfjkmpoaa
set_option linter.unusedSimpArgs false
set_option linter.unusedVariables false

theorem w64n {i n : Nat} (h : i < n) (hn : n ≤ 9223372036854775807) : wrap64 ((i : Int) + 1) = ((i + 1 : Nat) : Int) := by
  rw [Kit.w64 (by omega) (by omega)]; rfl
theorem rd_drop {xs : List Int} {i : Nat} (h : i < xs.length) : xs.drop i = rd xs (i : Int) :: xs.drop (i + 1) := by
  rw [Kit.rd_at h]; exact List.drop_eq_getElem_cons h
theorem toInt64S_l0 (xs : List Int) (hn : xs.length ≤ 9223372036854775807) : ∀ (d i : Nat) (ys : List Int), i + d = xs.length → ys.length = xs.length → (∀ j, j < i → ys[j]? = xs[j]?) → Ev (fun k => laws_toInt64S.l0 k xs ys (i : Int)) xs := by
  intro d
  induction d with
  | zero =>
    intro i ys hd hl he
    refine Kit.Ev.up ?_
    simp only [laws_toInt64S.l0]
    refine Kit.Ev.neg (by omega) (Kit.Ev.const ?_)
    congr 1
    apply List.ext_getElem?
    intro j
    by_cases hj : j < i
    · exact he j hj
    · rw [List.getElem?_eq_none (by omega), List.getElem?_eq_none (by omega)]
  | succ d ih =>
    intro i ys hd hl he
    refine Kit.Ev.up ?_
    simp only [laws_toInt64S.l0]
    refine Kit.Ev.pos (by omega) (Kit.Ev.pos (by omega) (Kit.Ev.pos (by omega) ?_))
    rw [w64n (n := xs.length) (by omega) hn, Int.toNat_natCast]
    refine ih (i + 1) _ (by omega) (by simpa using hl) (fun j hj => ?_)
    rw [List.getElem?_set]
    by_cases e : i = j
    · subst e
      rw [if_pos rfl, if_pos (by omega), Kit.rd_at (by omega), List.getElem?_eq_getElem (by omega)]
    · rw [if_neg e]
      exact he j (by omega)
theorem toInt64S_ev (xs : List Int) (hn : xs.length ≤ 1048576) : Ev (fun k => laws_toInt64S.f k xs) xs := by
  unfold laws_toInt64S.f
  refine Kit.Ev.pos (by omega) (Kit.Ev.pos (by omega) ?_)
  exact toInt64S_l0 xs (by omega) xs.length 0 _ (by omega) (by simp) (fun j hj => by omega)
theorem eqInt64S_l0 (xs ys : List Int) (hn : xs.length ≤ 9223372036854775807) (hl : xs.length = ys.length) : ∀ (d i : Nat), i + d = xs.length → Ev (fun k => laws_eqInt64S.l0 k xs ys (i : Int)) (decide (xs.drop i = ys.drop i)) := by
  intro d
  induction d with
  | zero =>
    intro i hd
    refine Kit.Ev.up ?_
    simp only [laws_eqInt64S.l0]
    refine Kit.Ev.neg (by omega) (Kit.Ev.const ?_)
    rw [List.drop_eq_nil_of_le (by omega), List.drop_eq_nil_of_le (by omega)]; simp
  | succ d ih =>
    intro i hd
    refine Kit.Ev.up ?_
    simp only [laws_eqInt64S.l0]
    refine Kit.Ev.pos (by omega) (Kit.Ev.pos (by omega) (Kit.Ev.pos (by omega) ?_))
    rw [rd_drop (xs := xs) (i := i) (by omega), rd_drop (xs := ys) (i := i) (by omega), w64n (n := xs.length) (by omega) hn]
    refine Kit.Ev.ite (fun h => ?_) (fun h => Kit.Ev.const ?_)
    · exact (ih (i + 1) (by omega)).eq (by rw [h]; simp)
    · simp [h]
theorem eqInt64S_ev (xs ys : List Int) (hn : xs.length ≤ 9223372036854775807) : Ev (fun k => laws_eqInt64S.f k xs ys) (decide (xs = ys)) := by
  unfold laws_eqInt64S.f
  refine Kit.Ev.ite (fun h => ?_) (fun h => Kit.Ev.const ?_)
  · exact (eqInt64S_l0 xs ys hn (by omega) xs.length 0 (by omega)).eq (by simp)
  · have : xs ≠ ys := fun e => h (by rw [e])
    simp [this]
theorem eqInt64S_refl (xs : List Int) (hn : xs.length ≤ 9223372036854775807) : Ev (fun k => laws_eqInt64S.f k xs xs) true := (eqInt64S_ev xs xs hn).eq (by simp)
theorem specIn_eq (a b c : Int) : spec_l1In.f a b c = some (decide (b ≤ a ∧ a ≤ c)) := by
  unfold spec_l1In.f
  by_cases h : a ≥ b
  · rw [if_pos h]; simp [show b ≤ a from h]
  · rw [if_neg h]; simp; intro h'; omega
theorem implIn_eq (a b c : Int) : impl_in.f a b c = some (decide (b ≤ a ∧ a ≤ c)) := by
  unfold impl_in.f
  by_cases h : a ≥ b
  · rw [if_pos h]; simp [show b ≤ a from h]
  · rw [if_neg h]; simp; intro h'; omega
def isW (x : Int) : Bool := decide (-1000000000000 ≤ x ∧ x ≤ 1000000000000)
theorem isW_iff {x : Int} : isW x = true ↔ -1000000000000 ≤ x ∧ x ≤ 1000000000000 := by simp [isW]
def addW (a b : Int) : Int × Int := if isW a = true ∧ isW b = true then (if isW (a + b) = true then (0, a + b) else (8, 0)) else (3, 0)
theorem addW_comm (a b : Int) : addW a b = addW b a := by
  unfold addW
  rw [Int.add_comm b a]; simp only [and_comm]
def mulP (a b : Int) : Int × Bool := if (a * b).natAbs ≤ 1000000000000 then (a * b, true) else (0, false)
theorem mulP_comm (a b : Int) : mulP a b = mulP b a := by
  unfold mulP
  rw [Int.mul_comm b a]
def mulW (a b : Int) : Int × Int := if isW a = true ∧ isW b = true then (if (mulP a b).2 = true then (0, (mulP a b).1) else (8, 0)) else (3, 0)
theorem mulW_comm (a b : Int) : mulW a b = mulW b a := by
  unfold mulW
  rw [mulP_comm b a]; simp only [and_comm]
theorem specWeight_eq (a : Int) : spec_l1Weight.f a = some (isW a) := by
  unfold spec_l1Weight.f
  rw [specIn_eq]; rfl
theorem implWeight_eq (a : Int) : impl_isWeight.f a = some (isW a) := by
  unfold impl_isWeight.f
  rw [implIn_eq]; rfl
theorem eqIntResult_eq (a b c d : Int) : laws_eqIntResult.f a b c d = some (decide (a = c ∧ b = d)) := by
  unfold laws_eqIntResult.f
  by_cases h : a = c <;> by_cases h' : b = d <;> simp [h, h']
def inC (x : Int) : Bool := decide (-1000000000 ≤ x ∧ x ≤ 1000000000)
def rowF (xs : List Int) : Int := if 4 < xs.length then 2 else if xs.all inC = true then 0 else 3
theorem specRow_l0 (xs : List Int) (hn : xs.length ≤ 9223372036854775807) : ∀ (d i : Nat), i + d = xs.length → Ev (fun k => spec_RowFault.l0 k xs (i : Int)) (if (xs.drop i).all inC = true then 0 else 3) := by
  intro d
  induction d with
  | zero =>
    intro i hd
    refine Kit.Ev.up ?_
    simp only [spec_RowFault.l0]
    refine Kit.Ev.neg (by omega) (Kit.Ev.const ?_)
    rw [List.drop_eq_nil_of_le (by omega)]; simp
  | succ d ih =>
    intro i hd
    refine Kit.Ev.up ?_
    simp only [spec_RowFault.l0]
    refine Kit.Ev.pos (by omega) (Kit.Ev.pos (by omega) ?_)
    rw [specIn_eq]
    simp only [Option.bind_some]
    rw [rd_drop (xs := xs) (i := i) (by omega), w64n (n := xs.length) (by omega) hn]
    by_cases h : inC (rd xs (i : Int)) = true
    · refine Kit.Ev.pos h ((ih (i + 1) (by omega)).eq ?_)
      simp [h]
    · refine Kit.Ev.neg h (Kit.Ev.const ?_)
      simp [h]
theorem specRow_ev (xs : List Int) (hn : xs.length ≤ 9223372036854775807) : Ev (fun k => spec_RowFault.f k xs) (rowF xs) := by
  unfold spec_RowFault.f
  refine Kit.Ev.ite (fun h => Kit.Ev.const ?_) (fun h => ?_)
  · simp [rowF, show 4 < xs.length by omega]
  · exact (specRow_l0 xs hn xs.length 0 (by omega)).eq (by simp [rowF, show ¬ 4 < xs.length by omega])
theorem implRow_l0 (xs : List Int) (hn : xs.length ≤ 9223372036854775807) : ∀ (d i : Nat), i + d = xs.length → Ev (fun k => impl_RowFault.l0 k xs (xs.length : Int) (i : Int)) (if (xs.drop i).all inC = true then 0 else 3) := by
  intro d
  induction d with
  | zero =>
    intro i hd
    refine Kit.Ev.up ?_
    simp only [impl_RowFault.l0]
    refine Kit.Ev.neg (by omega) (Kit.Ev.const ?_)
    rw [List.drop_eq_nil_of_le (by omega)]; simp
  | succ d ih =>
    intro i hd
    refine Kit.Ev.up ?_
    simp only [impl_RowFault.l0]
    refine Kit.Ev.pos (by omega) (Kit.Ev.pos (by omega) (Kit.Ev.pos (by omega) ?_))
    rw [implIn_eq]
    simp only [Option.bind_some]
    rw [rd_drop (xs := xs) (i := i) (by omega), w64n (n := xs.length) (by omega) hn]
    by_cases h : inC (rd xs (i : Int)) = true
    · refine Kit.Ev.pos h ((ih (i + 1) (by omega)).eq ?_)
      simp [h]
    · refine Kit.Ev.neg h (Kit.Ev.const ?_)
      simp [h]
theorem implRow_ev (xs : List Int) (hn : xs.length ≤ 9223372036854775807) : Ev (fun k => impl_RowFault.f k xs) (rowF xs) := by
  unfold impl_RowFault.f
  refine Kit.Ev.ite (fun h => Kit.Ev.const ?_) (fun h => ?_)
  · simp [rowF, show 4 < xs.length by omega]
  · exact (implRow_l0 xs hn xs.length 0 (by omega)).eq (by simp [rowF, show ¬ 4 < xs.length by omega])
def cmpR : List Int → List Int → Int
  | [], [] => 0
  | [], _ :: _ => -1
  | _ :: _, [] => 1
  | a :: xs, b :: ys => if a < b then -1 else if b < a then 1 else cmpR xs ys
theorem cmpR_len : ∀ (xs ys : List Int), xs = [] ∨ ys = [] → cmpR xs ys = if xs.length < ys.length then -1 else if ys.length < xs.length then 1 else 0
  | [], [], _ => rfl
  | [], _ :: _, _ => by simp [cmpR]
  | _ :: _, [], _ => by simp [cmpR]
  | _ :: _, _ :: _, h => by simp at h
theorem specCmp_l0 (xs ys : List Int) (hn : xs.length ≤ 9223372036854775807) : ∀ (d i : Nat), i + d = min xs.length ys.length → Ev (fun k => spec_CompareRows.l0 k xs ys (i : Int)) (cmpR (xs.drop i) (ys.drop i)) := by
  intro d
  induction d with
  | zero =>
    intro i hd
    refine Kit.Ev.up (Kit.Ev.up ?_)
    simp only [spec_CompareRows.l0, spec_CompareRows.j1]
    have hend : Ev (fun _ : Nat => if (xs.length : Int) < (ys.length : Int) then some (-1 : Int) else if (xs.length : Int) > (ys.length : Int) then some 1 else some 0) (cmpR (xs.drop i) (ys.drop i)) := by
      refine Kit.Ev.const ?_
      rw [cmpR_len _ _ (by
        by_cases h : i = xs.length
        · exact .inl (List.drop_eq_nil_of_le (by omega))
        · exact .inr (List.drop_eq_nil_of_le (by omega)))]
      simp only [List.length_drop]
      by_cases h1 : xs.length < ys.length
      · rw [if_pos (by omega), if_pos (by omega)]
      · by_cases h2 : ys.length < xs.length
        · rw [if_neg (by omega), if_pos (by omega), if_neg (by omega), if_pos (by omega)]
        · rw [if_neg (by omega), if_neg (by omega), if_neg (by omega), if_neg (by omega)]
    refine Kit.Ev.ite (fun h => ?_) (fun h => ?_)
    · refine Kit.Ev.neg (by simp; omega) hend
    · exact Kit.Ev.neg (by simp) hend
  | succ d ih =>
    intro i hd
    refine Kit.Ev.up (Kit.Ev.up ?_)
    simp only [spec_CompareRows.l0, spec_CompareRows.j1]
    refine Kit.Ev.pos (by omega) (Kit.Ev.pos (by simp; omega) (Kit.Ev.pos (by omega) (Kit.Ev.pos (by omega) (Kit.Ev.pos (by omega) ?_))))
    rw [rd_drop (xs := xs) (i := i) (by omega), rd_drop (xs := ys) (i := i) (by omega), w64n (n := xs.length) (by omega) hn]
    simp only [cmpR]
    refine Kit.Ev.ite2 (fun _ => Kit.Ev.const rfl) (fun _ => ?_)
    exact Kit.Ev.ite2 (fun _ => Kit.Ev.const rfl) (fun _ => ih (i + 1) (by omega))
theorem specCmp_ev (xs ys : List Int) (hn : xs.length ≤ 9223372036854775807) : Ev (fun k => spec_CompareRows.f k xs ys) (cmpR xs ys) := specCmp_l0 xs ys hn _ 0 (Nat.zero_add _)
theorem cmp64_eq (a b : Int) : cmp_Compare_int64.f a b = some (if a < b then -1 else if b < a then 1 else 0) := by
  unfold cmp_Compare_int64.f cmp_isNaN_int64.f
  simp only [bne_self_eq_false, Option.bind_some, Bool.false_eq_true, if_false]
  by_cases h1 : a < b
  · simp [h1]
  · by_cases h2 : b < a <;> simp [h1, h2]
theorem cmpI_eq (a b : Int) : cmp_Compare_int.f a b = some (if a < b then -1 else if b < a then 1 else 0) := by
  unfold cmp_Compare_int.f cmp_isNaN_int.f
  simp only [bne_self_eq_false, Option.bind_some, Bool.false_eq_true, if_false]
  by_cases h1 : a < b
  · simp [h1]
  · by_cases h2 : b < a <;> simp [h1, h2]
theorem implCmp_l0 (xs ys : List Int) (hn : xs.length ≤ 9223372036854775807) : ∀ (d i : Nat), i + d = min xs.length ys.length → Ev (fun k => impl_CompareRows.l0 k xs ys ((min xs.length ys.length : Nat) : Int) (i : Int)) (cmpR (xs.drop i) (ys.drop i)) := by
  intro d
  induction d with
  | zero =>
    intro i hd
    refine Kit.Ev.up ?_
    simp only [impl_CompareRows.l0]
    refine Kit.Ev.neg (by omega) ?_
    rw [cmpI_eq]
    refine Kit.Ev.const ?_
    rw [cmpR_len _ _ (by
      by_cases h : i = xs.length
      · exact .inl (List.drop_eq_nil_of_le (by omega))
      · exact .inr (List.drop_eq_nil_of_le (by omega)))]
    simp only [List.length_drop, Option.bind_some]
    by_cases h1 : xs.length < ys.length
    · rw [if_pos (by omega), if_pos (by omega)]
    · by_cases h2 : ys.length < xs.length
      · rw [if_neg (by omega), if_pos (by omega), if_neg (by omega), if_pos (by omega)]
      · rw [if_neg (by omega), if_neg (by omega), if_neg (by omega), if_neg (by omega)]
  | succ d ih =>
    intro i hd
    refine Kit.Ev.up ?_
    simp only [impl_CompareRows.l0]
    refine Kit.Ev.pos (by omega) (Kit.Ev.pos (by omega) (Kit.Ev.pos (by omega) (Kit.Ev.pos (by omega) ?_)))
    rw [rd_drop (xs := xs) (i := i) (by omega), rd_drop (xs := ys) (i := i) (by omega), w64n (n := xs.length) (by omega) hn, cmp64_eq]
    simp only [cmpR, Option.bind_some]
    by_cases h1 : rd xs (i : Int) < rd ys (i : Int)
    · simp only [h1, if_true]; exact Kit.Ev.const rfl
    · by_cases h2 : rd ys (i : Int) < rd xs (i : Int)
      · simp only [h1, h2, if_true, if_false]; exact Kit.Ev.const rfl
      · simp only [h1, h2, if_true, if_false]; exact ih (i + 1) (by omega)
theorem implCmp_ev (xs ys : List Int) (hn : xs.length ≤ 9223372036854775807) : Ev (fun k => impl_CompareRows.f k xs ys) (cmpR xs ys) := by
  unfold impl_CompareRows.f
  refine Kit.Ev.ite (fun h => ?_) (fun h => ?_)
  · have := implCmp_l0 xs ys hn _ 0 (Nat.zero_add _)
    rwa [Nat.min_eq_right (by omega)] at this
  · have := implCmp_l0 xs ys hn _ 0 (Nat.zero_add _)
    rwa [Nat.min_eq_left (by omega)] at this
theorem cmpR_trans : ∀ a b c : List Int, cmpR a b < 0 → cmpR b c < 0 → cmpR a c < 0
  | [], [], _, h, _ => by simp [cmpR] at h
  | [], _ :: _, [], _, h => by simp [cmpR] at h
  | [], _ :: _, _ :: _, _, _ => by simp [cmpR]
  | _ :: _, [], _, h, _ => by simp [cmpR] at h
  | _ :: _, _ :: _, [], _, h => by simp [cmpR] at h
  | x :: a, y :: b, z :: c, h1, h2 => by
    simp only [cmpR] at h1 h2 ⊢
    by_cases xy : x < y
    · by_cases yz : y < z
      · rw [if_pos (by omega)]; omega
      · by_cases zy : z < y
        · rw [if_neg yz, if_pos zy] at h2; omega
        · rw [if_pos (by omega)]; omega
    · by_cases yx : y < x
      · rw [if_neg xy, if_pos yx] at h1; omega
      · rw [if_neg xy, if_neg yx] at h1
        by_cases yz : y < z
        · rw [if_pos (by omega)]; omega
        · by_cases zy : z < y
          · rw [if_neg yz, if_pos zy] at h2; omega
          · rw [if_neg yz, if_neg zy] at h2
            rw [if_neg (by omega), if_neg (by omega)]
            exact cmpR_trans a b c h1 h2
theorem rdE_at {xs : List S65} {i : Nat} (h : i < xs.length) : rd_T65 xs (i : Int) = xs[i] := by simp [rd_T65, h]
theorem rdE_drop {xs : List S65} {i : Nat} (h : i < xs.length) : xs.drop i = rd_T65 xs (i : Int) :: xs.drop (i + 1) := by
  rw [rdE_at h]; exact List.drop_eq_getElem_cons h
theorem rdE_mem {xs : List S65} {i : Nat} (h : i < xs.length) : rd_T65 xs (i : Int) ∈ xs := by
  rw [rdE_at h]; exact List.getElem_mem h
def setG : Option (List Int) → List S65 → Int
  | _, [] => 0
  | p, x :: xs => if rowF x.f0 = 0 then (if isW x.f1 = true ∧ x.f1 ≠ 0 then (match p with | some q => if cmpR q x.f0 ≥ 0 then 1 else setG (some x.f0) xs | none => setG (some x.f0) xs) else 3) else rowF x.f0
def setF (l : List S65) : Int := if 200 < l.length then 2 else setG none l
def prevE (xs : List S65) (i : Nat) : Option (List Int) := if i = 0 then none else some (rd_T65 xs ((i - 1 : Nat) : Int)).f0
theorem prevE_succ (xs : List S65) (i : Nat) : prevE xs (i + 1) = some (rd_T65 xs (i : Int)).f0 := by simp [prevE]
theorem w64p {i : Nat} (h : 0 < i) (hn : i ≤ 9223372036854775807) : wrap64 ((i : Int) - 1) = ((i - 1 : Nat) : Int) := by
  rw [Kit.w64 (by omega) (by omega)]; omega
/-- The rows ascend. -/
def Srt (l : List S65) : Prop := l.Pairwise (fun x y => cmpR x.f0 y.f0 < 0)
theorem setG_srt : ∀ (p : Option (List Int)) (l : List S65), setG p l = 0 → Srt l ∧ ∀ q, p = some q → ∀ x ∈ l, cmpR q x.f0 < 0
  | _, [], _ => ⟨List.Pairwise.nil, fun _ _ _ h => by simp at h⟩
  | p, x :: xs, h => by
    simp only [setG] at h
    by_cases h1 : rowF x.f0 = 0
    · rw [if_pos h1] at h
      by_cases h2 : isW x.f1 = true ∧ x.f1 ≠ 0
      · rw [if_pos h2] at h
        cases p with
        | none =>
          obtain ⟨s, b⟩ := setG_srt _ _ h
          exact ⟨List.Pairwise.cons (fun y hy => b _ rfl y hy) s, fun q e => by cases e⟩
        | some q =>
          simp only at h
          by_cases h3 : cmpR q x.f0 ≥ 0
          · rw [if_pos h3] at h; omega
          · rw [if_neg h3] at h
            obtain ⟨s, b⟩ := setG_srt _ _ h
            refine ⟨List.Pairwise.cons (fun y hy => b _ rfl y hy) s, fun q' e y hy => ?_⟩
            injection e with e
            subst e
            rcases List.mem_cons.mp hy with rfl | hy
            · omega
            · exact cmpR_trans _ _ _ (by omega) (b _ rfl y hy)
      · rw [if_neg h2] at h; omega
    · rw [if_neg h1] at h; exact absurd h h1
theorem setF_srt {l : List S65} (h : setF l = 0) : Srt l := by
  unfold setF at h
  by_cases h1 : 200 < l.length
  · rw [if_pos h1] at h; omega
  · rw [if_neg h1] at h; exact (setG_srt _ _ h).1
theorem Srt.at_ {l : List S65} (h : Srt l) {i j : Nat} (hij : i < j) (hj : j < l.length) : cmpR (rd_T65 l (i : Int)).f0 (rd_T65 l (j : Int)).f0 < 0 := by
  rw [rdE_at (by omega), rdE_at hj]
  exact List.pairwise_iff_getElem.mp h i j (by omega) hj hij
def weightL (row : List Int) : List S65 → Int
  | [] => 0
  | x :: xs => if cmpR x.f0 row = 0 then x.f1 else weightL row xs
def weightF (row : List Int) (l : List S65) : Int × Int := if setF l = 0 then (if rowF row = 0 then (0, weightL row l) else (rowF row, 0)) else (setF l, 0)
theorem weightL_none {row : List Int} : ∀ {l : List S65}, (∀ x ∈ l, cmpR x.f0 row ≠ 0) → weightL row l = 0
  | [], _ => rfl
  | x :: xs, h => by
    simp only [weightL]
    rw [if_neg (h x (by simp)), weightL_none (fun y hy => h y (by simp [hy]))]
theorem weightL_at {row : List Int} : ∀ {l : List S65} {m : Nat}, m < l.length → (∀ q, q < m → cmpR (rd_T65 l (q : Int)).f0 row ≠ 0) → cmpR (rd_T65 l (m : Int)).f0 row = 0 → weightL row l = (rd_T65 l (m : Int)).f1
  | [], m, h, _, _ => by simp at h
  | x :: xs, 0, _, _, h0 => by
    simp only [weightL]
    have e : rd_T65 (x :: xs) ((0 : Nat) : Int) = x := rfl
    rw [e] at h0 ⊢
    rw [if_pos h0]
  | x :: xs, m + 1, h, hq, h0 => by
    simp only [weightL]
    have s : ∀ q : Nat, rd_T65 (x :: xs) ((q + 1 : Nat) : Int) = rd_T65 xs (q : Int) := fun q => by
      unfold rd_T65
      rw [Int.toNat_natCast, Int.toNat_natCast]
      simp
    have e : rd_T65 (x :: xs) ((0 : Nat) : Int) = x := rfl
    have h1 := hq 0 (by omega)
    rw [e] at h1
    rw [if_neg h1]
    rw [s] at h0 ⊢
    exact weightL_at (by simpa using h) (fun q hqm => by rw [← s]; exact hq (q + 1) (by omega)) h0
/-- The rows are no longer than any machine's. -/
def Fine (l : List S65) : Prop := l.length ≤ 1048576 ∧ ∀ x ∈ l, x.f0.length ≤ 1048576
theorem Fine.n {l : List S65} (h : Fine l) : l.length ≤ 9223372036854775807 := by have := h.1; omega
theorem Fine.r {l : List S65} (h : Fine l) : ∀ x ∈ l, x.f0.length ≤ 9223372036854775807 := fun x hx => by have := h.2 x hx; omega
theorem cmpR_anti : ∀ xs ys : List Int, cmpR xs ys = - cmpR ys xs
  | [], [] => rfl
  | [], _ :: _ => rfl
  | _ :: _, [] => rfl
  | a :: xs, b :: ys => by
    simp only [cmpR]
    have ih := cmpR_anti xs ys
    by_cases h1 : a < b
    · rw [if_pos h1, if_neg (by omega), if_pos h1]
    · by_cases h2 : b < a
      · rw [if_neg h1, if_pos h2, if_pos h2]; rfl
      · rw [if_neg h1, if_neg h2, if_neg h2, if_neg h1]; exact ih
theorem specSet_l0 (xs : List S65) (hx : Fine xs) : ∀ (d i : Nat), i + d = xs.length → Ev (fun k => spec_SetFault.l0 k xs (i : Int)) (setG (prevE xs i) (xs.drop i)) := by
  have hn := hx.n
  intro d
  induction d with
  | zero =>
    intro i hd
    refine Kit.Ev.up ?_
    simp only [spec_SetFault.l0]
    refine Kit.Ev.neg (by omega) (Kit.Ev.const ?_)
    rw [List.drop_eq_nil_of_le (by omega)]; simp [setG]
  | succ d ih =>
    intro i hd
    have hm := hx.r _ (rdE_mem (xs := xs) (i := i) (by omega))
    have hj : ∀ b : Bool, b = ! decide (isW (rd_T65 xs (i : Int)).f1 = true ∧ (rd_T65 xs (i : Int)).f1 ≠ 0) → rowF (rd_T65 xs (i : Int)).f0 = 0 → Ev (fun k => spec_SetFault.j1 k xs (i : Int) b) (setG (prevE xs i) (xs.drop i)) := by
      intro b hb hrow
      rw [rdE_drop (xs := xs) (i := i) (by omega)]
      simp only [setG]
      rw [if_pos hrow]
      refine Kit.Ev.up ?_
      simp only [spec_SetFault.j1]
      by_cases hw : isW (rd_T65 xs (i : Int)).f1 = true ∧ (rd_T65 xs (i : Int)).f1 ≠ 0
      · rw [if_pos hw]
        refine Kit.Ev.neg (by rw [hb]; simp [hw]) ?_
        by_cases h0 : i = 0
        · subst h0
          refine Kit.Ev.neg (by omega) ?_
          rw [w64n (n := xs.length) (by omega) hn]
          have := ih 1 (by omega)
          rw [show prevE xs 1 = some (rd_T65 xs ((0 : Nat) : Int)).f0 from prevE_succ xs 0] at this
          simpa [prevE] using this
        · refine Kit.Ev.pos (by omega) (Kit.Ev.pos (by omega) (Kit.Ev.pos (by omega) ?_))
          rw [w64p (by omega) (by omega)]
          refine Kit.Ev.pos (by omega) (Kit.Ev.pos (by omega) ?_)
          refine Kit.Ev.then (specCmp_ev _ _ hm) ?_
          rw [w64n (n := xs.length) (by omega) hn, show prevE xs i = some (rd_T65 xs ((i - 1 : Nat) : Int)).f0 from by simp [prevE, h0]]
          dsimp only
          rw [cmpR_anti (rd_T65 xs ((i - 1 : Nat) : Int)).f0]
          refine Kit.Ev.ite (fun hc => Kit.Ev.const ?_) (fun hc => ?_)
          · rw [if_pos (by omega)]
          · rw [if_neg (by omega), ← prevE_succ]
            exact ih (i + 1) (by omega)
      · rw [if_neg hw]
        exact Kit.Ev.pos (by rw [hb]; simp only [hw, decide_false]; rfl) (Kit.Ev.const rfl)
    refine Kit.Ev.up ?_
    simp only [spec_SetFault.l0]
    refine Kit.Ev.pos (by omega) (Kit.Ev.pos (by omega) (Kit.Ev.then (specRow_ev _ hm) ?_))
    refine Kit.Ev.ite (fun hrow => ?_) (fun hrow => Kit.Ev.const ?_)
    · rw [specWeight_eq]
      simp only [Option.bind_some]
      refine Kit.Ev.ite (fun hw => hj _ ?_ hrow) (fun hw => hj _ ?_ hrow)
      · by_cases hz : (rd_T65 xs (i : Int)).f1 = 0 <;> simp [hw, hz]
      · simp [hw]
    · rw [rdE_drop (xs := xs) (i := i) (by omega)]
      simp only [setG]
      rw [if_neg hrow]
theorem specSet_ev (xs : List S65) (hx : Fine xs) : Ev (fun k => spec_SetFault.f k xs) (setF xs) := by
  unfold spec_SetFault.f setF
  refine Kit.Ev.ite (fun h => Kit.Ev.const ?_) (fun h => ?_)
  · rw [if_pos (by omega)]
  · rw [if_neg (by omega)]
    exact (specSet_l0 xs hx xs.length 0 (by omega)).eq (by simp [prevE])
theorem specWeightL_l0 (xs : List S65) (hx : Fine xs) (row : List Int) : ∀ (d i : Nat), i + d = xs.length → Ev (fun k => spec_l2Weight.l0 k xs row (i : Int)) (weightL row (xs.drop i)) := by
  intro d
  induction d with
  | zero =>
    intro i hd
    refine Kit.Ev.up ?_
    simp only [spec_l2Weight.l0]
    refine Kit.Ev.neg (by omega) (Kit.Ev.const ?_)
    rw [List.drop_eq_nil_of_le (by omega)]; rfl
  | succ d ih =>
    intro i hd
    refine Kit.Ev.up ?_
    simp only [spec_l2Weight.l0]
    have hm := hx.r _ (rdE_mem (xs := xs) (i := i) (by omega))
    refine Kit.Ev.pos (by omega) (Kit.Ev.pos (by omega) (Kit.Ev.then (specCmp_ev _ _ hm) ?_))
    rw [rdE_drop (xs := xs) (i := i) (by omega), w64n (n := xs.length) (by omega) hx.n]
    simp only [weightL]
    exact Kit.Ev.ite2 (fun _ => Kit.Ev.const rfl) (fun _ => ih (i + 1) (by omega))
theorem specWeightL_ev (xs : List S65) (hx : Fine xs) (row : List Int) : Ev (fun k => spec_l2Weight.f k xs row) (weightL row xs) := by
  unfold spec_l2Weight.f
  exact specWeightL_l0 xs hx row xs.length 0 (by omega)
theorem specWeightOf_ev (xs : List S65) (hx : Fine xs) (row : List Int) (hr : row.length ≤ 9223372036854775807) : Ev (fun k => spec_WeightOf.f k xs row) (weightF row xs) := by
  unfold spec_WeightOf.f weightF
  refine Kit.Ev.then (specSet_ev xs hx) (Kit.Ev.ite2 (fun h => ?_) (fun h => Kit.Ev.const rfl))
  refine Kit.Ev.then (specRow_ev row hr) (Kit.Ev.ite2 (fun h => ?_) (fun h => Kit.Ev.const rfl))
  exact Kit.Ev.then (specWeightL_ev xs hx row) (Kit.Ev.const rfl)
theorem cmpR_zero : ∀ xs ys : List Int, cmpR xs ys = 0 ↔ xs = ys
  | [], [] => by simp [cmpR]
  | [], _ :: _ => by simp [cmpR]
  | _ :: _, [] => by simp [cmpR]
  | a :: xs, b :: ys => by
    simp only [cmpR]
    by_cases h1 : a < b
    · rw [if_pos h1]; simp; omega
    · by_cases h2 : b < a
      · rw [if_neg h1, if_pos h2]; simp; omega
      · rw [if_neg h1, if_neg h2, cmpR_zero xs ys]
        have : a = b := by omega
        simp [this]
theorem cmpR_in : ∀ xs ys : List Int, cmpR xs ys = -1 ∨ cmpR xs ys = 0 ∨ cmpR xs ys = 1
  | [], [] => by simp [cmpR]
  | [], _ :: _ => by simp [cmpR]
  | _ :: _, [] => by simp [cmpR]
  | a :: xs, b :: ys => by
    simp only [cmpR]
    by_cases h1 : a < b
    · rw [if_pos h1]; simp
    · by_cases h2 : b < a
      · rw [if_neg h1, if_pos h2]; simp
      · rw [if_neg h1, if_neg h2]; exact cmpR_in xs ys
theorem implSet_l0 (xs : List S65) (hx : Fine xs) : ∀ (d i : Nat), i + d = xs.length → Ev (fun k => impl_SetFault.l0 k xs xs (xs.length : Int) (i : Int)) (setG (prevE xs i) (xs.drop i)) := by
  have hn := hx.n
  intro d
  induction d with
  | zero =>
    intro i hd
    refine Kit.Ev.up ?_
    simp only [impl_SetFault.l0]
    refine Kit.Ev.neg (by omega) (Kit.Ev.const ?_)
    rw [List.drop_eq_nil_of_le (by omega)]; simp [setG]
  | succ d ih =>
    intro i hd
    have hm := hx.r _ (rdE_mem (xs := xs) (i := i) (by omega))
    have hj : ∀ b : Bool, b = ! decide (isW (rd_T65 xs (i : Int)).f1 = true ∧ (rd_T65 xs (i : Int)).f1 ≠ 0) → rowF (rd_T65 xs (i : Int)).f0 = 0 → Ev (fun k => impl_SetFault.j1 k xs (i : Int) xs (xs.length : Int) (i : Int) b (rd_T65 xs (i : Int)).f0 (rd_T65 xs (i : Int)).f1) (setG (prevE xs i) (xs.drop i)) := by
      intro b hb hrow
      rw [rdE_drop (xs := xs) (i := i) (by omega)]
      simp only [setG]
      rw [if_pos hrow]
      refine Kit.Ev.up ?_
      simp only [impl_SetFault.j1]
      by_cases hw : isW (rd_T65 xs (i : Int)).f1 = true ∧ (rd_T65 xs (i : Int)).f1 ≠ 0
      · rw [if_pos hw]
        refine Kit.Ev.neg (by rw [hb]; simp [hw]) ?_
        by_cases h0 : i = 0
        · subst h0
          refine Kit.Ev.neg (by omega) ?_
          rw [w64n (n := xs.length) (by omega) hn]
          have := ih 1 (by omega)
          rw [show prevE xs 1 = some (rd_T65 xs ((0 : Nat) : Int)).f0 from prevE_succ xs 0] at this
          simpa [prevE] using this
        · refine Kit.Ev.pos (by omega) ?_
          rw [w64p (by omega) (by omega)]
          have hp := hx.r _ (rdE_mem (xs := xs) (i := i - 1) (by omega))
          refine Kit.Ev.pos (by omega) (Kit.Ev.pos (by omega) ?_)
          refine Kit.Ev.then (implCmp_ev _ _ hp) ?_
          rw [w64n (n := xs.length) (by omega) hn, show prevE xs i = some (rd_T65 xs ((i - 1 : Nat) : Int)).f0 from by simp [prevE, h0]]
          dsimp only
          refine Kit.Ev.ite (fun hc => Kit.Ev.const ?_) (fun hc => ?_)
          · rw [if_pos (by omega)]
          · rw [if_neg (by omega), ← prevE_succ]
            exact ih (i + 1) (by omega)
      · rw [if_neg hw]
        exact Kit.Ev.pos (by rw [hb]; simp only [hw, decide_false]; rfl) (Kit.Ev.const rfl)
    refine Kit.Ev.up ?_
    simp only [impl_SetFault.l0]
    refine Kit.Ev.pos (by omega) (Kit.Ev.pos (by omega) (Kit.Ev.pos (by omega) (Kit.Ev.then (implRow_ev _ hm) ?_)))
    refine Kit.Ev.ite (fun hrow => ?_) (fun hrow => Kit.Ev.const ?_)
    · rw [implWeight_eq]
      simp only [Option.bind_some]
      refine Kit.Ev.ite (fun hw => hj _ ?_ hrow) (fun hw => hj _ ?_ hrow)
      · by_cases hz : (rd_T65 xs (i : Int)).f1 = 0 <;> simp [hw, hz]
      · simp [hw]
    · rw [rdE_drop (xs := xs) (i := i) (by omega)]
      simp only [setG]
      rw [if_neg hrow]
theorem implSet_ev (xs : List S65) (hx : Fine xs) : Ev (fun k => impl_SetFault.f k xs) (setF xs) := by
  unfold impl_SetFault.f setF
  refine Kit.Ev.ite (fun h => Kit.Ev.const ?_) (fun h => ?_)
  · rw [if_pos (by omega)]
  · rw [if_neg (by omega)]
    exact (implSet_l0 xs hx xs.length 0 (by omega)).eq (by simp [prevE])
theorem half_eq {i j : Nat} (h : i ≤ j) (hj : j ≤ 1048576) : wrap64 ((IntKind.u64.wrap (wrap64 ((i : Int) + (j : Int)))) / 2) = (((i + j) / 2 : Nat) : Int) := by
  rw [Kit.w64 (x := (i : Int) + (j : Int)) (by omega) (by omega)]
  have e : IntKind.u64.wrap ((i : Int) + (j : Int)) = (i : Int) + (j : Int) := by
    show ((i : Int) + (j : Int)) % 18446744073709551616 = _
    omega
  rw [e, Kit.w64 (by omega) (by omega)]
  omega
theorem search_l0 (xs : List S65) (hx : Fine xs) (row : List Int) (hs : Srt xs) : ∀ (d i j : Nat), j - i ≤ d → i ≤ j → j ≤ xs.length →
    (∀ q, q < i → cmpR (rd_T65 xs (q : Int)).f0 row < 0) → (∀ q, j ≤ q → q < xs.length → 0 ≤ cmpR (rd_T65 xs (q : Int)).f0 row) →
    ∃ m, m ≤ xs.length ∧ (∀ q, q < m → cmpR (rd_T65 xs (q : Int)).f0 row < 0) ∧ (∀ q, m ≤ q → q < xs.length → 0 ≤ cmpR (rd_T65 xs (q : Int)).f0 row) ∧
      Ev (fun k => slices_BinarySearchFunc_impl_byRow.l0 k xs (xs.length : Int) (i : Int) (j : Int) row 0) ((m : Int), if m < xs.length then cmpR (rd_T65 xs (m : Int)).f0 row == 0 else false) := by
  have hn := hx.1
  intro d
  induction d with
  | zero =>
    intro i j h1 h2 h3 ha hb
    obtain rfl : i = j := by omega
    refine ⟨i, h3, ha, hb, ?_⟩
    refine Kit.Ev.up ?_
    simp only [slices_BinarySearchFunc_impl_byRow.l0, impl_byRow.f]
    refine Kit.Ev.neg (by omega) ?_
    by_cases h : i < xs.length
    · have hm := hx.r _ (rdE_mem (xs := xs) (i := i) h)
      rw [if_pos h]
      refine Kit.Ev.pos (by omega) (Kit.Ev.pos (by omega) (Kit.Ev.pos (by omega) (Kit.Ev.then (a := cmpR (rd_T65 xs (i : Int)).f0 row) (Kit.Ev.then (implCmp_ev _ _ hm) (Kit.Ev.const rfl)) (Kit.Ev.const rfl))))
    · rw [if_neg h]
      exact Kit.Ev.neg (by omega) (Kit.Ev.const rfl)
  | succ d ih =>
    intro i j h1 h2 h3 ha hb
    by_cases hij : i = j
    · exact ih i j (by omega) h2 h3 ha hb
    have hm1 : i ≤ (i + j) / 2 := by omega
    have hm2 : (i + j) / 2 < j := by omega
    have hm := hx.r _ (rdE_mem (xs := xs) (i := (i + j) / 2) (by omega))
    by_cases hc : cmpR (rd_T65 xs (((i + j) / 2 : Nat) : Int)).f0 row < 0
    · obtain ⟨m, e1, e2, e3, e4⟩ := ih ((i + j) / 2 + 1) j (by omega) (by omega) h3 (fun q hq => by
        by_cases e : q = (i + j) / 2
        · rw [e]; exact hc
        · exact cmpR_trans _ _ _ (hs.at_ (i := q) (j := (i + j) / 2) (by omega) (by omega)) hc) hb
      refine ⟨m, e1, e2, e3, ?_⟩
      refine Kit.Ev.up ?_
      simp only [slices_BinarySearchFunc_impl_byRow.l0, impl_byRow.f, half_eq h2 (show j ≤ 1048576 by omega)]
      refine Kit.Ev.pos (by omega) (Kit.Ev.pos (by omega) (Kit.Ev.pos (by omega) (Kit.Ev.then (a := cmpR (rd_T65 xs (((i + j) / 2 : Nat) : Int)).f0 row) (Kit.Ev.then (implCmp_ev _ _ hm) (Kit.Ev.const rfl)) (Kit.Ev.pos hc ?_))))
      rw [w64n (i := (i + j) / 2) (n := xs.length) (by omega) (by omega)]
      exact e4
    · obtain ⟨m, e1, e2, e3, e4⟩ := ih i ((i + j) / 2) (by omega) hm1 (by omega) ha (fun q hq hl => by
        by_cases e : q = (i + j) / 2
        · rw [e]; omega
        · have h5 := hs.at_ (i := (i + j) / 2) (j := q) (by omega) hl
          by_cases h6 : 0 ≤ cmpR (rd_T65 xs (q : Int)).f0 row
          · exact h6
          · exact absurd (cmpR_trans _ _ _ h5 (by omega)) hc)
      refine ⟨m, e1, e2, e3, ?_⟩
      refine Kit.Ev.up ?_
      simp only [slices_BinarySearchFunc_impl_byRow.l0, impl_byRow.f, half_eq h2 (show j ≤ 1048576 by omega)]
      refine Kit.Ev.pos (by omega) (Kit.Ev.pos (by omega) (Kit.Ev.pos (by omega) (Kit.Ev.then (a := cmpR (rd_T65 xs (((i + j) / 2 : Nat) : Int)).f0 row) (Kit.Ev.then (implCmp_ev _ _ hm) (Kit.Ev.const rfl)) (Kit.Ev.neg hc ?_))))
      exact e4
theorem implWeightL_ev (xs : List S65) (hx : Fine xs) (hs : Srt xs) (row : List Int) : Ev (fun k => impl_weightOf.f k xs row) (weightL row xs) := by
  obtain ⟨m, e1, e2, e3, e4⟩ := search_l0 xs hx row hs xs.length 0 xs.length (by omega) (by omega) (by omega) (fun q hq => by omega) (fun q h1 h2 => by omega)
  unfold impl_weightOf.f slices_BinarySearchFunc_impl_byRow.f
  refine Kit.Ev.then e4 ?_
  by_cases h : m < xs.length
  · simp only [if_pos h]
    by_cases hz : cmpR (rd_T65 xs (m : Int)).f0 row = 0
    · refine Kit.Ev.pos (by simp [hz]) (Kit.Ev.pos (by omega) (Kit.Ev.pos (by omega) (Kit.Ev.const ?_)))
      rw [weightL_at h (fun q hq => by have := e2 q hq; omega) hz]
    · refine Kit.Ev.neg (by simp [hz]) (Kit.Ev.const ?_)
      rw [weightL_none (fun x hx' => ?_)]
      obtain ⟨q, hq, rfl⟩ := List.mem_iff_getElem.mp hx'
      rw [← rdE_at hq]
      by_cases hqm : q < m
      · have := e2 q hqm; omega
      · have h7 := e3 q (by omega) hq
        have h8 := e3 m (by omega) h
        by_cases e : q = m
        · rw [e]; omega
        · intro h9
          have h10 := hs.at_ (i := m) (j := q) (by omega) hq
          rw [(cmpR_zero _ _).mp h9] at h10
          omega
  · simp only [if_neg h]
    refine Kit.Ev.neg (by decide) (Kit.Ev.const ?_)
    rw [weightL_none (fun x hx' => ?_)]
    obtain ⟨q, hq, rfl⟩ := List.mem_iff_getElem.mp hx'
    rw [← rdE_at hq]
    have := e2 q (by omega)
    omega
theorem implWeightOf_ev (xs : List S65) (hx : Fine xs) (row : List Int) (hr : row.length ≤ 9223372036854775807) : Ev (fun k => impl_WeightOf.f k xs row) (weightF row xs) := by
  unfold impl_WeightOf.f weightF
  refine Kit.Ev.then (implSet_ev xs hx) (Kit.Ev.ite2 (fun h => ?_) (fun h => Kit.Ev.const rfl))
  refine Kit.Ev.then (implRow_ev row hr) (Kit.Ev.ite2 (fun h' => ?_) (fun h' => Kit.Ev.const rfl))
  exact Kit.Ev.then (implWeightL_ev xs hx (setF_srt h) row) (Kit.Ev.const rfl)
theorem rdLE_at {xs : List S63} {i : Nat} (h : i < xs.length) : rd_T63 xs (i : Int) = xs[i] := by simp [rd_T63, h]
theorem rdLE_drop {xs : List S63} {i : Nat} (h : i < xs.length) : xs.drop i = rd_T63 xs (i : Int) :: xs.drop (i + 1) := by
  rw [rdLE_at h]; exact List.drop_eq_getElem_cons h
theorem rdLE_mem {xs : List S63} {i : Nat} (h : i < xs.length) : rd_T63 xs (i : Int) ∈ xs := by
  rw [rdLE_at h]; exact List.getElem_mem h
def conv (x : S63) : S65 := ⟨x.f0, x.f1⟩
def szGo : Int → List S63 → Int
  | t, [] => t
  | t, x :: xs => if t - (x.f0.length : Int) < 0 then -1 else szGo (t - (x.f0.length : Int)) xs
def szE (t : Int) (l : List S63) : Int := if t - (l.length : Int) < 0 then -1 else szGo (t - (l.length : Int)) l
theorem szGo_le : ∀ (l : List S63) (t : Int), 0 ≤ szGo t l → szGo t l ≤ t ∧ ∀ x ∈ l, (x.f0.length : Int) ≤ t
  | [], t, h => ⟨Int.le_refl _, by simp⟩
  | x :: xs, t, h => by
    unfold szGo at h ⊢
    by_cases hc : t - (x.f0.length : Int) < 0
    · rw [if_pos hc] at h; omega
    · rw [if_neg hc] at h ⊢
      have ih := szGo_le xs _ h
      refine ⟨by omega, fun y hy => ?_⟩
      rcases List.mem_cons.1 hy with rfl | hy
      · omega
      · have := ih.2 y hy; omega
theorem szE_le {t : Int} {l : List S63} (h : 0 ≤ szE t l) : (l.length : Int) ≤ t ∧ szE t l ≤ t ∧ ∀ x ∈ l, (x.f0.length : Int) ≤ t := by
  unfold szE at h ⊢
  by_cases hc : t - (l.length : Int) < 0
  · rw [if_pos hc] at h; omega
  · rw [if_neg hc] at h ⊢
    have := szGo_le l _ h
    refine ⟨by omega, by omega, fun x hx => ?_⟩
    have := this.2 x hx
    omega
theorem szInt_eq {n : Nat} {l : List Int} {t : Int} (h0 : 0 ≤ t) (h1 : t ≤ 1048576) (hn : l.length = n) (hl : n ≤ 9223372036854775807) : laws_szInt64S.f l t = some (if t - (n : Int) < 0 then -1 else t - (n : Int)) := by
  unfold laws_szInt64S.f
  rw [hn, Kit.w64 (by omega) (by omega)]
  by_cases h : t - (n : Int) < 0
  · rw [if_pos h, if_pos h]
  · rw [if_neg h, if_neg h]
theorem szEntry_eq {l : List Int} {w t : Int} (h0 : 0 ≤ t) (h1 : t ≤ 1048576) (hl : l.length ≤ 9223372036854775807) : laws_szEntry.f l w t = some (if t - (l.length : Int) < 0 then -1 else t - (l.length : Int)) := by
  unfold laws_szEntry.f
  rw [szInt_eq h0 h1 rfl hl]
  simp only [Option.bind_some]
  by_cases h : t - (l.length : Int) < 0
  · rw [if_pos h, if_pos (by omega)]
  · rw [if_neg h, if_neg h]
theorem szEntryS_l0 (xs : List S63) (hn : xs.length ≤ 9223372036854775807) (hr : ∀ x ∈ xs, x.f0.length ≤ 9223372036854775807) : ∀ (d i : Nat) (t : Int), i + d = xs.length → 0 ≤ t → t ≤ 1048576 → Ev (fun k => laws_szEntryS.l0 k xs t (i : Int)) (szGo t (xs.drop i)) := by
  intro d
  induction d with
  | zero =>
    intro i t hd h0 h1
    refine Kit.Ev.up ?_
    simp only [laws_szEntryS.l0]
    refine Kit.Ev.neg (by omega) (Kit.Ev.const ?_)
    rw [List.drop_eq_nil_of_le (by omega)]; rfl
  | succ d ih =>
    intro i t hd h0 h1
    refine Kit.Ev.up ?_
    simp only [laws_szEntryS.l0]
    refine Kit.Ev.pos (by omega) (Kit.Ev.pos (by omega) ?_)
    rw [rdLE_drop (xs := xs) (i := i) (by omega), w64n (n := xs.length) (by omega) hn, szEntry_eq h0 h1 (hr _ (rdLE_mem (by omega)))]
    simp only [Option.bind_some, szGo]
    by_cases h : t - ((rd_T63 xs (i : Int)).f0.length : Int) < 0
    · rw [if_pos h]; exact Kit.Ev.pos (by omega) (Kit.Ev.const (by rw [if_pos h]))
    · rw [if_neg h, if_neg h]
      exact Kit.Ev.neg h (ih (i + 1) _ (by omega) (by omega) (by omega))
theorem szEntryS_ev (xs : List S63) (hn : xs.length ≤ 9223372036854775807) (hr : ∀ x ∈ xs, x.f0.length ≤ 9223372036854775807) {t : Int} (h0 : 0 ≤ t) (h1 : t ≤ 1048576) : Ev (fun k => laws_szEntryS.f k xs t) (szE t xs) := by
  unfold laws_szEntryS.f szE
  rw [Kit.w64 (by omega) (by omega)]
  by_cases h : t - (xs.length : Int) < 0
  · rw [if_pos h]; exact Kit.Ev.pos h (Kit.Ev.const rfl)
  · rw [if_neg h]; exact Kit.Ev.neg h (szEntryS_l0 xs hn hr xs.length 0 _ (by omega) (by omega) (by omega))
theorem toEntryS_l0 (xs : List S63) (hn : xs.length ≤ 9223372036854775807) (hr : ∀ x ∈ xs, x.f0.length ≤ 1048576) : ∀ (d i : Nat) (ys : List S65), i + d = xs.length → ys.length = xs.length → (∀ j, j < i → ys[j]? = (xs.map conv)[j]?) → Ev (fun k => laws_toEntryS.l0 k xs ys (i : Int)) (xs.map conv) := by
  intro d
  induction d with
  | zero =>
    intro i ys hd hl he
    refine Kit.Ev.up ?_
    simp only [laws_toEntryS.l0]
    refine Kit.Ev.neg (by omega) (Kit.Ev.const ?_)
    congr 1
    apply List.ext_getElem?
    intro j
    by_cases hj : j < i
    · exact he j hj
    · rw [List.getElem?_eq_none (by omega), List.getElem?_eq_none (by rw [List.length_map]; omega)]
  | succ d ih =>
    intro i ys hd hl he
    refine Kit.Ev.up ?_
    simp only [laws_toEntryS.l0, laws_toEntry.f]
    refine Kit.Ev.pos (by omega) (Kit.Ev.pos (by omega) ?_)
    have hm := rdLE_mem (xs := xs) (i := i) (by omega)
    refine Kit.Ev.then (a := ((rd_T63 xs (i : Int)).f0, (rd_T63 xs (i : Int)).f1)) (Kit.Ev.then (toInt64S_ev _ (hr _ hm)) (Kit.Ev.const rfl)) ?_
    refine Kit.Ev.pos (by omega) ?_
    rw [w64n (n := xs.length) (by omega) hn, Int.toNat_natCast]
    refine ih (i + 1) _ (by omega) (by simpa using hl) (fun j hj => ?_)
    rw [List.getElem?_set]
    by_cases e : i = j
    · subst e
      rw [if_pos rfl, if_pos (by omega), List.getElem?_map, List.getElem?_eq_getElem (by omega), rdLE_at (by omega)]
      rfl
    · rw [if_neg e]
      exact he j (by omega)
theorem toEntryS_ev (xs : List S63) (hn : xs.length ≤ 1048576) (hr : ∀ x ∈ xs, x.f0.length ≤ 1048576) : Ev (fun k => laws_toEntryS.f k xs) (xs.map conv) := by
  unfold laws_toEntryS.f
  refine Kit.Ev.pos (by omega) (Kit.Ev.pos (by omega) ?_)
  exact toEntryS_l0 xs (by omega) hr xs.length 0 _ (by omega) (by simp) (fun j hj => by omega)
theorem eqEntryS_l0 (xs : List S65) (hn : xs.length ≤ 9223372036854775807) (hr : ∀ x ∈ xs, x.f0.length ≤ 9223372036854775807) : ∀ (d i : Nat), i + d = xs.length → Ev (fun k => laws_eqEntryS.l0 k xs xs (i : Int)) true := by
  intro d
  induction d with
  | zero =>
    intro i hd
    refine Kit.Ev.up ?_
    simp only [laws_eqEntryS.l0]
    exact Kit.Ev.neg (by omega) (Kit.Ev.const rfl)
  | succ d ih =>
    intro i hd
    refine Kit.Ev.up ?_
    simp only [laws_eqEntryS.l0, laws_eqEntry.f]
    refine Kit.Ev.pos (by omega) (Kit.Ev.pos (by omega) (Kit.Ev.pos (by omega) ?_))
    have hm := rdE_mem (xs := xs) (i := i) (by omega)
    refine Kit.Ev.then (a := true) (Kit.Ev.then (eqInt64S_refl _ (hr _ hm)) (Kit.Ev.pos rfl (Kit.Ev.pos (by trivial) (Kit.Ev.const rfl)))) ?_
    refine Kit.Ev.pos rfl ?_
    rw [w64n (n := xs.length) (by omega) hn]
    exact ih (i + 1) (by omega)
theorem eqEntryS_refl (xs : List S65) (hn : xs.length ≤ 9223372036854775807) (hr : ∀ x ∈ xs, x.f0.length ≤ 9223372036854775807) : Ev (fun k => laws_eqEntryS.f k xs xs) true := by
  unfold laws_eqEntryS.f
  exact Kit.Ev.pos rfl (eqEntryS_l0 xs hn hr xs.length 0 (by omega))
/-- What a law over one list of entries begins with: too much, or what is laid is as it came in. -/
theorem input_of {l : List S63} (hl : (fun l : List S63 => l.length ≤ maxLen ∧ ∀ y ∈ l, (fun x : S63 => (fun l : List Int => l.length ≤ maxLen ∧ ∀ y ∈ l, (fun x : Int => (Lit.int .i64 x).wf = true) y) x.f0 ∧ (fun x : Int => (Lit.int .i64 x).wf = true) x.f1) y) l) {t : Int} (h0 : 0 ≤ t) (h1 : t ≤ 1048576) :
    Ev (fun k => laws_szEntryS.f k l t) (szE t l) ∧ (¬ szE t l < 0 → szE t l ≤ 1048576 ∧ 0 ≤ szE t l ∧ Fine (l.map conv) ∧ Ev (fun k => laws_toEntryS.f k l) (l.map conv)) := by
  have hm : ∀ n : Nat, n ≤ maxLen → n ≤ 9223372036854775807 := fun n h => by simp only [maxLen] at h; omega
  refine ⟨szEntryS_ev l (hm _ hl.1) (fun x hx => hm _ (hl.2 x hx).1.1) h0 h1, fun h => ?_⟩
  have hb := szE_le (t := t) (l := l) (by omega)
  have hr : ∀ x ∈ l, x.f0.length ≤ 1048576 := fun x hx => by have := hb.2.2 x hx; omega
  refine ⟨by omega, by omega, ⟨by rw [List.length_map]; omega, fun x hx => ?_⟩, toEntryS_ev l (by omega) hr⟩
  obtain ⟨y, hy, rfl⟩ := List.mem_map.1 hx
  exact hr y hy
theorem FnExactWeightOf : laws_FnExactWeightOf.Pure := by
  intro l row hl _ hr _
  refine Kit.Ev.ex ?_
  unfold laws_FnExactWeightOf.f
  refine Kit.Ev.ite (fun _ => Kit.Ev.const rfl) (fun hn => ?_)
  have hn' : row.length ≤ 1048576 := by omega
  obtain ⟨hz, hin⟩ := input_of hl (t := 1048576) (by omega) (by omega)
  refine Kit.Ev.then hz (Kit.Ev.ite (fun _ => Kit.Ev.const rfl) (fun h => ?_))
  obtain ⟨_, _, hx, ht⟩ := hin h
  refine Kit.Ev.then ht (Kit.Ev.then (toInt64S_ev row hn') (Kit.Ev.then (specWeightOf_ev _ hx row (by omega)) (Kit.Ev.then ht (Kit.Ev.then (toInt64S_ev row hn') (Kit.Ev.then (implWeightOf_ev _ hx row (by omega)) ?_)))))
  rw [eqIntResult_eq]
  simp only [and_self, decide_true, Option.bind_some, if_true]
  refine Kit.Ev.then ht (Kit.Ev.then (eqEntryS_refl _ hx.n hx.r) (Kit.Ev.pos rfl ?_))
  exact Kit.Ev.then (toInt64S_ev row hn') (Kit.Ev.then (eqInt64S_refl row (by omega)) (Kit.Ev.const rfl))

end Go.Proofs.Ythnbghcfjkmpoaa.Pure
