/- The law FnExactSetText answers true for every list of entries. -/
import Derived.Test.YthnbghcfjkmpoaaDoorKit
import Derived.Test.YthnbghcfjkmpoaaDoorPFnExactSetTextx7
namespace Go.Proofs.YthnbghcfjkmpoaaDoor.Pure
open Go.RowKit Go.Proofs.YthnbghcfjkmpoaaDoor.PFnExactSetText Go.Proofs.YthnbghcfjkmpoaaDoorW.PrintWords Go.Proofs.YthnbghcfjkmpoaaDoorW.PrintLast Go.Proofs.YthnbghcfjkmpoaaDoor Go.Proofs.YthnbghcfjkmpoaaDoor.Kit
set_option linter.unusedSimpArgs false
set_option linter.unusedVariables false

theorem w64n {i n : Nat} (h : i < n) (hn : n ≤ 9223372036854775807) : wrap64 ((i : Int) + 1) = ((i + 1 : Nat) : Int) := by
 rw [w64 (by omega) (by omega)]; rfl
theorem rd_drop {xs : List Int} {i : Nat} (h : i < xs.length) : xs.drop i = rd xs (i : Int) :: xs.drop (i + 1) := by
 rw [rd_at h]; exact List.drop_eq_getElem_cons h
theorem toInt64S_l0 (xs : List Int) (hn : xs.length ≤ 9223372036854775807) : ∀ (d i : Nat) (ys : List Int), i + d = xs.length → ys.length = xs.length → (∀ j, j < i → ys[j]? = xs[j]?) → Ev (fun k => laws_toInt64S.l0 k xs ys (i : Int)) xs := by
 intro d
 induction d with
 | zero =>
  intro i ys hd hl he
  refine Ev.up ?_
  simp only [laws_toInt64S.l0]
  refine Ev.neg (by omega) (Ev.const ?_)
  congr 1
  apply List.ext_getElem?
  intro j
  by_cases hj : j < i
  ·exact he j hj
  ·rw [List.getElem?_eq_none (by omega), List.getElem?_eq_none (by omega)]
 | succ d ih =>
  intro i ys hd hl he
  refine Ev.up ?_
  simp only [laws_toInt64S.l0]
  refine Ev.pos (by omega) (Ev.pos (by omega) (Ev.pos (by omega) ?_))
  rw [w64n (n := xs.length) (by omega) hn, Int.toNat_natCast]
  refine ih (i + 1) _ (by omega) (by simpa using hl) (fun j hj => ?_)
  rw [List.getElem?_set]
  by_cases e : i = j
  ·subst e
   rw [if_pos rfl, if_pos (by omega), rd_at (by omega), List.getElem?_eq_getElem (by omega)]
  ·rw [if_neg e]
   exact he j (by omega)
theorem toInt64S_ev (xs : List Int) (hn : xs.length ≤ 1048576) : Ev (fun k => laws_toInt64S.f k xs) xs := by
 unfold laws_toInt64S.f
 refine Ev.pos (by omega) (Ev.pos (by omega) ?_)
 exact toInt64S_l0 xs (by omega) xs.length 0 _ (by omega) (by simp) (fun j hj => by omega)
theorem eqInt64S_l0 (xs ys : List Int) (hn : xs.length ≤ 9223372036854775807) (hl : xs.length = ys.length) : ∀ (d i : Nat), i + d = xs.length → Ev (fun k => laws_eqInt64S.l0 k xs ys (i : Int)) (decide (xs.drop i = ys.drop i)) := by
 intro d
 induction d with
 | zero =>
  intro i hd
  refine Ev.up ?_
  simp only [laws_eqInt64S.l0]
  refine Ev.neg (by omega) (Ev.const ?_)
  rw [List.drop_eq_nil_of_le (by omega), List.drop_eq_nil_of_le (by omega)]; simp
 | succ d ih =>
  intro i hd
  refine Ev.up ?_
  simp only [laws_eqInt64S.l0]
  refine Ev.pos (by omega) (Ev.pos (by omega) (Ev.pos (by omega) ?_))
  rw [rd_drop (xs := xs) (i := i) (by omega), rd_drop (xs := ys) (i := i) (by omega), w64n (n := xs.length) (by omega) hn]
  refine Ev.ite (fun h => ?_) (fun h => Ev.const ?_)
  ·exact (ih (i + 1) (by omega)).eq (by rw [h]; simp)
  ·simp [h]
theorem eqInt64S_ev (xs ys : List Int) (hn : xs.length ≤ 9223372036854775807) : Ev (fun k => laws_eqInt64S.f k xs ys) (decide (xs = ys)) := by
 unfold laws_eqInt64S.f
 refine Ev.ite (fun h => ?_) (fun h => Ev.const ?_)
 ·exact (eqInt64S_l0 xs ys hn (by omega) xs.length 0 (by omega)).eq (by simp)
 ·have : xs ≠ ys := fun e => h (by rw [e])
  simp [this]
theorem eqInt64S_refl (xs : List Int) (hn : xs.length ≤ 9223372036854775807) : Ev (fun k => laws_eqInt64S.f k xs xs) true := (eqInt64S_ev xs xs hn).eq (by simp)
theorem specIn_eq (a b c : Int) : spec_l1In.f a b c = some (decide (b ≤ a ∧ a ≤ c)) := by
 unfold spec_l1In.f
 by_cases h : a ≥ b
 ·rw [if_pos h]; simp [show b ≤ a from h]
 ·rw [if_neg h]; simp; intro h'; omega
theorem implIn_eq (a b c : Int) : impl_in.f a b c = some (decide (b ≤ a ∧ a ≤ c)) := by
 unfold impl_in.f
 by_cases h : a ≥ b
 ·rw [if_pos h]; simp [show b ≤ a from h]
 ·rw [if_neg h]; simp; intro h'; omega
def isW (x : Int) : Bool := decide (-1000000000000 ≤ x ∧ x ≤ 1000000000000)
theorem isW_iff {x : Int} : isW x = true ↔ -1000000000000 ≤ x ∧ x ≤ 1000000000000 := by simp [isW]
def addW (a b : Int) : Int × Int := if isW a = true ∧ isW b = true then (if isW (a + b) = true then (0, a + b) else (8, 0)) else (3, 0)
theorem addW_comm (a b : Int) : addW a b = addW b a := by
 unfold addW
 rw [Int.add_comm b a]; simp only [and_comm]
def mulP (a b : Int) : Int × Bool := if (a * b).natAbs ≤ 1000000000000 then (a * b, true) else (0, false)
theorem mulP_comm (a b : Int) : mulP a b = mulP b a := by
 unfold mulP
 rw [Int.mul_comm b a]
def mulW (a b : Int) : Int × Int := if isW a = true ∧ isW b = true then (if (mulP a b).2 = true then (0, (mulP a b).1) else (8, 0)) else (3, 0)
theorem mulW_comm (a b : Int) : mulW a b = mulW b a := by
 unfold mulW
 rw [mulP_comm b a]; simp only [and_comm]
theorem specWeight_eq (a : Int) : spec_l1Weight.f a = some (isW a) := by
 unfold spec_l1Weight.f
 rw [specIn_eq]; rfl
theorem implWeight_eq (a : Int) : impl_isWeight.f a = some (isW a) := by
 unfold impl_isWeight.f
 rw [implIn_eq]; rfl
def inC (x : Int) : Bool := decide (-1000000000 ≤ x ∧ x ≤ 1000000000)
def rowF (xs : List Int) : Int := if 4 < xs.length then 2 else if xs.all inC = true then 0 else 3
theorem specRow_l0 (xs : List Int) (hn : xs.length ≤ 9223372036854775807) : ∀ (d i : Nat), i + d = xs.length → Ev (fun k => spec_RowFault.l0 k xs (i : Int)) (if (xs.drop i).all inC = true then 0 else 3) := by
 intro d
 induction d with
 | zero =>
  intro i hd
  refine Ev.up ?_
  simp only [spec_RowFault.l0]
  refine Ev.neg (by omega) (Ev.const ?_)
  rw [List.drop_eq_nil_of_le (by omega)]; simp
 | succ d ih =>
  intro i hd
  refine Ev.up ?_
  simp only [spec_RowFault.l0]
  refine Ev.pos (by omega) (Ev.pos (by omega) ?_)
  rw [specIn_eq]
  simp only [Option.bind_some]
  rw [rd_drop (xs := xs) (i := i) (by omega), w64n (n := xs.length) (by omega) hn]
  by_cases h : inC (rd xs (i : Int)) = true
  ·refine Ev.pos h ((ih (i + 1) (by omega)).eq ?_)
   simp [h]
  ·refine Ev.neg h (Ev.const ?_)
   simp [h]
theorem specRow_ev (xs : List Int) (hn : xs.length ≤ 9223372036854775807) : Ev (fun k => spec_RowFault.f k xs) (rowF xs) := by
 unfold spec_RowFault.f
 refine Ev.ite (fun h => Ev.const ?_) (fun h => ?_)
 ·simp [rowF, show 4 < xs.length by omega]
 ·exact (specRow_l0 xs hn xs.length 0 (by omega)).eq (by simp [rowF, show ¬ 4 < xs.length by omega])
theorem implRow_l0 (xs : List Int) (hn : xs.length ≤ 9223372036854775807) : ∀ (d i : Nat), i + d = xs.length → Ev (fun k => impl_RowFault.l0 k xs (xs.length : Int) (i : Int)) (if (xs.drop i).all inC = true then 0 else 3) := by
 intro d
 induction d with
 | zero =>
  intro i hd
  refine Ev.up ?_
  simp only [impl_RowFault.l0]
  refine Ev.neg (by omega) (Ev.const ?_)
  rw [List.drop_eq_nil_of_le (by omega)]; simp
 | succ d ih =>
  intro i hd
  refine Ev.up ?_
  simp only [impl_RowFault.l0]
  refine Ev.pos (by omega) (Ev.pos (by omega) (Ev.pos (by omega) ?_))
  rw [implIn_eq]
  simp only [Option.bind_some]
  rw [rd_drop (xs := xs) (i := i) (by omega), w64n (n := xs.length) (by omega) hn]
  by_cases h : inC (rd xs (i : Int)) = true
  ·refine Ev.pos h ((ih (i + 1) (by omega)).eq ?_)
   simp [h]
  ·refine Ev.neg h (Ev.const ?_)
   simp [h]
theorem implRow_ev (xs : List Int) (hn : xs.length ≤ 9223372036854775807) : Ev (fun k => impl_RowFault.f k xs) (rowF xs) := by
 unfold impl_RowFault.f
 refine Ev.ite (fun h => Ev.const ?_) (fun h => ?_)
 ·simp [rowF, show 4 < xs.length by omega]
 ·exact (implRow_l0 xs hn xs.length 0 (by omega)).eq (by simp [rowF, show ¬ 4 < xs.length by omega])
def cmpR : List Int → List Int → Int
 | [], [] => 0
 | [], _ :: _ => -1
 | _ :: _, [] => 1
 | a :: xs, b :: ys => if a < b then -1 else if b < a then 1 else cmpR xs ys
theorem cmpR_len : ∀ (xs ys : List Int), xs = [] ∨ ys = [] → cmpR xs ys = if xs.length < ys.length then -1 else if ys.length < xs.length then 1 else 0
 | [], [], _ => rfl
 | [], _ :: _, _ => by simp [cmpR]
 | _ :: _, [], _ => by simp [cmpR]
 | _ :: _, _ :: _, h => by simp at h
theorem specCmp_l0 (xs ys : List Int) (hn : xs.length ≤ 9223372036854775807) : ∀ (d i : Nat), i + d = min xs.length ys.length → Ev (fun k => spec_CompareRows.l0 k xs ys (i : Int)) (cmpR (xs.drop i) (ys.drop i)) := by
 intro d
 induction d with
 | zero =>
  intro i hd
  refine Ev.up (Ev.up ?_)
  simp only [spec_CompareRows.l0, spec_CompareRows.j1]
  have hend : Ev (fun _ : Nat => if (xs.length : Int) < (ys.length : Int) then some (-1 : Int) else if (xs.length : Int) > (ys.length : Int) then some 1 else some 0) (cmpR (xs.drop i) (ys.drop i)) := by
   refine Ev.const ?_
   rw [cmpR_len _ _ (by
    by_cases h : i = xs.length
    ·exact .inl (List.drop_eq_nil_of_le (by omega))
    ·exact .inr (List.drop_eq_nil_of_le (by omega)))]
   simp only [List.length_drop]
   by_cases h1 : xs.length < ys.length
   ·rw [if_pos (by omega), if_pos (by omega)]
   ·by_cases h2 : ys.length < xs.length
    ·rw [if_neg (by omega), if_pos (by omega), if_neg (by omega), if_pos (by omega)]
    ·rw [if_neg (by omega), if_neg (by omega), if_neg (by omega), if_neg (by omega)]
  refine Ev.ite (fun h => ?_) (fun h => ?_)
  ·refine Ev.neg (by simp; omega) hend
  ·exact Ev.neg (by simp) hend
 | succ d ih =>
  intro i hd
  refine Ev.up (Ev.up ?_)
  simp only [spec_CompareRows.l0, spec_CompareRows.j1]
  refine Ev.pos (by omega) (Ev.pos (by simp; omega) (Ev.pos (by omega) (Ev.pos (by omega) (Ev.pos (by omega) ?_))))
  rw [rd_drop (xs := xs) (i := i) (by omega), rd_drop (xs := ys) (i := i) (by omega), w64n (n := xs.length) (by omega) hn]
  simp only [cmpR]
  refine Ev.ite2 (fun _ => Ev.const rfl) (fun _ => ?_)
  exact Ev.ite2 (fun _ => Ev.const rfl) (fun _ => ih (i + 1) (by omega))
theorem specCmp_ev (xs ys : List Int) (hn : xs.length ≤ 9223372036854775807) : Ev (fun k => spec_CompareRows.f k xs ys) (cmpR xs ys) := specCmp_l0 xs ys hn _ 0 (Nat.zero_add _)
theorem cmp64_eq (a b : Int) : cmp_Compare_int64.f a b = some (if a < b then -1 else if b < a then 1 else 0) := by
 unfold cmp_Compare_int64.f cmp_isNaN_int64.f
 simp only [bne_self_eq_false, Option.bind_some, Bool.false_eq_true, if_false]
 by_cases h1 : a < b
 ·simp [h1]
 ·by_cases h2 : b < a <;> simp [h1, h2]
theorem cmpI_eq (a b : Int) : cmp_Compare_int.f a b = some (if a < b then -1 else if b < a then 1 else 0) := by
 unfold cmp_Compare_int.f cmp_isNaN_int.f
 simp only [bne_self_eq_false, Option.bind_some, Bool.false_eq_true, if_false]
 by_cases h1 : a < b
 ·simp [h1]
 ·by_cases h2 : b < a <;> simp [h1, h2]
theorem implCmp_l0 (xs ys : List Int) (hn : xs.length ≤ 9223372036854775807) : ∀ (d i : Nat), i + d = min xs.length ys.length → Ev (fun k => impl_CompareRows.l0 k xs ys ((min xs.length ys.length : Nat) : Int) (i : Int)) (cmpR (xs.drop i) (ys.drop i)) := by
 intro d
 induction d with
 | zero =>
  intro i hd
  refine Ev.up ?_
  simp only [impl_CompareRows.l0]
  refine Ev.neg (by omega) ?_
  rw [cmpI_eq]
  refine Ev.const ?_
  rw [cmpR_len _ _ (by
   by_cases h : i = xs.length
   ·exact .inl (List.drop_eq_nil_of_le (by omega))
   ·exact .inr (List.drop_eq_nil_of_le (by omega)))]
  simp only [List.length_drop, Option.bind_some]
  by_cases h1 : xs.length < ys.length
  ·rw [if_pos (by omega), if_pos (by omega)]
  ·by_cases h2 : ys.length < xs.length
   ·rw [if_neg (by omega), if_pos (by omega), if_neg (by omega), if_pos (by omega)]
   ·rw [if_neg (by omega), if_neg (by omega), if_neg (by omega), if_neg (by omega)]
 | succ d ih =>
  intro i hd
  refine Ev.up ?_
  simp only [impl_CompareRows.l0]
  refine Ev.pos (by omega) (Ev.pos (by omega) (Ev.pos (by omega) (Ev.pos (by omega) ?_)))
  rw [rd_drop (xs := xs) (i := i) (by omega), rd_drop (xs := ys) (i := i) (by omega), w64n (n := xs.length) (by omega) hn, cmp64_eq]
  simp only [cmpR, Option.bind_some]
  by_cases h1 : rd xs (i : Int) < rd ys (i : Int)
  ·simp only [h1, if_true]; exact Ev.const rfl
  ·by_cases h2 : rd ys (i : Int) < rd xs (i : Int)
   ·simp only [h1, h2, if_true, if_false]; exact Ev.const rfl
   ·simp only [h1, h2, if_true, if_false]; exact ih (i + 1) (by omega)
theorem implCmp_ev (xs ys : List Int) (hn : xs.length ≤ 9223372036854775807) : Ev (fun k => impl_CompareRows.f k xs ys) (cmpR xs ys) := by
 unfold impl_CompareRows.f
 refine Ev.ite (fun h => ?_) (fun h => ?_)
 ·have := implCmp_l0 xs ys hn _ 0 (Nat.zero_add _)
  rwa [Nat.min_eq_right (by omega)] at this
 ·have := implCmp_l0 xs ys hn _ 0 (Nat.zero_add _)
  rwa [Nat.min_eq_left (by omega)] at this
def setG : Option (List Int) → List S34 → Int
 | _, [] => 0
 | p, x :: xs => if rowF x.f0 = 0 then (if isW x.f1 = true ∧ x.f1 ≠ 0 then (match p with | some q => if cmpR q x.f0 ≥ 0 then 1 else setG (some x.f0) xs | none => setG (some x.f0) xs) else 3) else rowF x.f0
def setF (l : List S34) : Int := if 200 < l.length then 2 else setG none l
def prevE (xs : List S34) (i : Nat) : Option (List Int) := if i = 0 then none else some (rd_T34 xs ((i - 1 : Nat) : Int)).f0
theorem prevE_succ (xs : List S34) (i : Nat) : prevE xs (i + 1) = some (rd_T34 xs (i : Int)).f0 := by simp [prevE]
theorem w64p {i : Nat} (h : 0 < i) (hn : i ≤ 9223372036854775807) : wrap64 ((i : Int) - 1) = ((i - 1 : Nat) : Int) := by
 rw [w64 (by omega) (by omega)]; omega
def negE (x : S34) : S34 := ⟨x.f0, -x.f1⟩
def negF (l : List S34) : Int × List S34 := if setF l = 0 then (0, l.map negE) else (setF l, [])
theorem setG_ok : ∀ (p : Option (List Int)) (l : List S34), setG p l = 0 → ∀ x ∈ l, rowF x.f0 = 0 ∧ isW x.f1 = true ∧ x.f1 ≠ 0
 | _, [], _, _, h => by simp at h
 | p, x :: xs, h, y, hy => by
  simp only [setG] at h
  by_cases h1 : rowF x.f0 = 0
  ·rw [if_pos h1] at h
   by_cases h2 : isW x.f1 = true ∧ x.f1 ≠ 0
   ·rw [if_pos h2] at h
    have hr : setG (some x.f0) xs = 0 := by
     cases p with
     | none => exact h
     | some q =>
      simp only at h
      by_cases h3 : cmpR q x.f0 ≥ 0
      ·rw [if_pos h3] at h; omega
      ·rw [if_neg h3] at h; exact h
    rcases List.mem_cons.mp hy with rfl | hy
    ·exact ⟨h1, h2.1, h2.2⟩
    ·exact setG_ok _ xs hr y hy
   ·rw [if_neg h2] at h; omega
  ·rw [if_neg h1] at h; exact absurd h h1
theorem setF_ok {l : List S34} (h : setF l = 0) : l.length ≤ 200 ∧ ∀ x ∈ l, rowF x.f0 = 0 ∧ isW x.f1 = true ∧ x.f1 ≠ 0 := by
 unfold setF at h
 by_cases h1 : 200 < l.length
 ·rw [if_pos h1] at h; omega
 ·rw [if_neg h1] at h; exact ⟨by omega, setG_ok _ _ h⟩
theorem isW_in {x : Int} (h : isW x = true) : -1000000000000 ≤ x ∧ x ≤ 1000000000000 := by
 simpa [isW] using h
def cellB (c : Int) : List Int := [((c + 549755813888) / 4294967296) % 256, ((c + 549755813888) / 16777216) % 256, ((c + 549755813888) / 65536) % 256, ((c + 549755813888) / 256) % 256, (c + 549755813888) % 256]
def packR (r : List Int) : List Int := ((r.length : Int) % 256) :: r.flatMap cellB
def packG : List Int → List (List Int) → Int × List Int
 | out, [] => (0, out)
 | out, r :: rs => if rowF r = 0 then packG (out ++ packR r) rs else (rowF r, [])
def packV (rows : List (List Int)) : Int × List Int := if 60 < rows.length then (2, []) else packG [] rows
theorem rowF_zero {r : List Int} (h : rowF r = 0) : r.length ≤ 4 ∧ ∀ x ∈ r, -1000000000 ≤ x ∧ x ≤ 1000000000 := by
 unfold rowF at h
 by_cases h1 : 4 < r.length
 ·rw [if_pos h1] at h; omega
 ·rw [if_neg h1] at h
  by_cases h2 : r.all inC = true
  ·refine ⟨by omega, fun x hx => ?_⟩
   have := List.all_eq_true.mp h2 x hx
   simpa [inC] using this
  ·rw [if_neg h2] at h; omega
theorem cells_len : ∀ r : List Int, (r.flatMap cellB).length = 5 * r.length
 | [] => rfl
 | x :: r => by rw [List.flatMap_cons, List.length_append, cells_len r]; simp only [cellB, List.length_cons, List.length_nil]; omega
theorem packR_len (r : List Int) : (packR r).length = 1 + 5 * r.length := by simp only [packR, List.length_cons, cells_len]; omega
theorem rd2_drop {xs : List (List Int)} {i : Nat} (h : i < xs.length) : xs.drop i = rd_L1 xs (i : Int) :: xs.drop (i + 1) := by
 rw [List.drop_eq_getElem_cons h]
 simp [rd_L1, List.getD_eq_getElem?_getD, List.getElem?_eq_getElem h]
theorem rd2_mem {xs : List (List Int)} {i : Nat} (h : i < xs.length) : rd_L1 xs (i : Int) ∈ xs := by
 simp only [rd_L1, Int.toNat_natCast, List.getD_eq_getElem?_getD, List.getElem?_eq_getElem h, Option.getD_some]
 exact List.getElem_mem h
theorem rd_mem {xs : List Int} {i : Nat} (h : i < xs.length) : rd xs (i : Int) ∈ xs := by
 rw [rd_at h]; exact List.getElem_mem h
def cellV (a b c d e : Int) : Int := (((a * 256 + b) * 256 + c) * 256 + d) * 256 + e - 549755813888
def cells : Nat → List Int → List Int
 | 0, _ => []
 | n + 1, l => cellV (rd l 0) (rd l 1) (rd l 2) (rd l 3) (rd l 4) :: cells n (l.drop 5)
def rowOk (b : Int) (rest : List Int) : Prop := b ≤ 4 ∧ 5 * b ≤ (rest.length : Int) ∧ rowF (cells b.toNat rest) = 0
instance (b : Int) (rest : List Int) : Decidable (rowOk b rest) := by unfold rowOk; infer_instance
def unG : Nat → Int → List (List Int) → List Int → Int × Int × List (List Int)
 | 0, _, rows, _ => (0, 0, rows)
 | _ + 1, _, rows, [] => (0, 0, rows)
 | n + 1, at_, rows, b :: rest =>
  if rowOk b rest ∧ rows.length ≠ 60 then unG n (at_ + 1 + 5 * b) (rows ++ [cells b.toNat rest]) (rest.drop (5 * b.toNat)) else (5, at_, [])
def unV (data : List Int) : Int × Int × List (List Int) := unG (data.length + 1) 0 [] data
theorem cells_length : ∀ (n : Nat) (l : List Int), (cells n l).length = n
 | 0, _ => rfl
 | n + 1, l => by simp only [cells, List.length_cons, cells_length n]
theorem cells_snoc : ∀ (n : Nat) (l : List Int), cells (n + 1) l = cells n l ++ [cellV (rd (l.drop (5 * n)) 0) (rd (l.drop (5 * n)) 1) (rd (l.drop (5 * n)) 2) (rd (l.drop (5 * n)) 3) (rd (l.drop (5 * n)) 4)]
 | 0, l => by simp [cells]
 | n + 1, l => by
  rw [cells, cells_snoc n (l.drop 5), cells, List.cons_append, List.drop_drop]
  rw [show 5 + 5 * n = 5 * (n + 1) by omega]
theorem rd_dropi (l : List Int) (m i : Nat) : rd (l.drop m) (i : Int) = rd l ((m + i : Nat) : Int) := by
 rw [rd_nat, rd_nat, List.getD_eq_getElem?_getD, List.getD_eq_getElem?_getD, List.getElem?_drop]
theorem rdE_at {xs : List S34} {i : Nat} (h : i < xs.length) : rd_T34 xs (i : Int) = xs[i] := by simp [rd_T34, h]
theorem rdE_drop {xs : List S34} {i : Nat} (h : i < xs.length) : xs.drop i = rd_T34 xs (i : Int) :: xs.drop (i + 1) := by
 rw [rdE_at h]; exact List.drop_eq_getElem_cons h
theorem rdE_mem {xs : List S34} {i : Nat} (h : i < xs.length) : rd_T34 xs (i : Int) ∈ xs := by
 rw [rdE_at h]; exact List.getElem_mem h
theorem rdLE_at {xs : List S32} {i : Nat} (h : i < xs.length) : rd_T32 xs (i : Int) = xs[i] := by simp [rd_T32, h]
theorem rdLE_drop {xs : List S32} {i : Nat} (h : i < xs.length) : xs.drop i = rd_T32 xs (i : Int) :: xs.drop (i + 1) := by
 rw [rdLE_at h]; exact List.drop_eq_getElem_cons h
theorem rdLE_mem {xs : List S32} {i : Nat} (h : i < xs.length) : rd_T32 xs (i : Int) ∈ xs := by
 rw [rdLE_at h]; exact List.getElem_mem h
def conv (x : S32) : S34 := ⟨x.f0, x.f1⟩
def szGo : Int → List S32 → Int
 | t, [] => t
 | t, x :: xs => if t - (x.f0.length : Int) < 0 then -1 else szGo (t - (x.f0.length : Int)) xs
def szE (t : Int) (l : List S32) : Int := if t - (l.length : Int) < 0 then -1 else szGo (t - (l.length : Int)) l
theorem szGo_le : ∀ (l : List S32) (t : Int), 0 ≤ szGo t l → szGo t l ≤ t ∧ ∀ x ∈ l, (x.f0.length : Int) ≤ t
 | [], t, h => ⟨Int.le_refl _, by simp⟩
 | x :: xs, t, h => by
  unfold szGo at h ⊢
  by_cases hc : t - (x.f0.length : Int) < 0
  ·rw [if_pos hc] at h; omega
  ·rw [if_neg hc] at h ⊢
   have ih := szGo_le xs _ h
   refine ⟨by omega, fun y hy => ?_⟩
   rcases List.mem_cons.1 hy with rfl | hy
   ·omega
   ·have := ih.2 y hy; omega
theorem szE_le {t : Int} {l : List S32} (h : 0 ≤ szE t l) : (l.length : Int) ≤ t ∧ szE t l ≤ t ∧ ∀ x ∈ l, (x.f0.length : Int) ≤ t := by
 unfold szE at h ⊢
 by_cases hc : t - (l.length : Int) < 0
 ·rw [if_pos hc] at h; omega
 ·rw [if_neg hc] at h ⊢
  have := szGo_le l _ h
  refine ⟨by omega, by omega, fun x hx => ?_⟩
  have := this.2 x hx
  omega
theorem szInt_eq {n : Nat} {l : List Int} {t : Int} (h0 : 0 ≤ t) (h1 : t ≤ 1048576) (hn : l.length = n) (hl : n ≤ 9223372036854775807) : laws_szInt64S.f l t = some (if t - (n : Int) < 0 then -1 else t - (n : Int)) := by
 unfold laws_szInt64S.f
 rw [hn, w64 (by omega) (by omega)]
 by_cases h : t - (n : Int) < 0
 ·rw [if_pos h, if_pos h]
 ·rw [if_neg h, if_neg h]
theorem szEntry_eq {l : List Int} {w t : Int} (h0 : 0 ≤ t) (h1 : t ≤ 1048576) (hl : l.length ≤ 9223372036854775807) : laws_szEntry.f l w t = some (if t - (l.length : Int) < 0 then -1 else t - (l.length : Int)) := by
 unfold laws_szEntry.f
 rw [szInt_eq h0 h1 rfl hl]
 simp only [Option.bind_some]
 by_cases h : t - (l.length : Int) < 0
 ·rw [if_pos h, if_pos (by omega)]
 ·rw [if_neg h, if_neg h]
theorem szEntryS_l0 (xs : List S32) (hn : xs.length ≤ 9223372036854775807) (hr : ∀ x ∈ xs, x.f0.length ≤ 9223372036854775807) : ∀ (d i : Nat) (t : Int), i + d = xs.length → 0 ≤ t → t ≤ 1048576 → Ev (fun k => laws_szEntryS.l0 k xs t (i : Int)) (szGo t (xs.drop i)) := by
 intro d
 induction d with
 | zero =>
  intro i t hd h0 h1
  refine Ev.up ?_
  simp only [laws_szEntryS.l0]
  refine Ev.neg (by omega) (Ev.const ?_)
  rw [List.drop_eq_nil_of_le (by omega)]; rfl
 | succ d ih =>
  intro i t hd h0 h1
  refine Ev.up ?_
  simp only [laws_szEntryS.l0]
  refine Ev.pos (by omega) (Ev.pos (by omega) ?_)
  rw [rdLE_drop (xs := xs) (i := i) (by omega), w64n (n := xs.length) (by omega) hn, szEntry_eq h0 h1 (hr _ (rdLE_mem (by omega)))]
  simp only [Option.bind_some, szGo]
  by_cases h : t - ((rd_T32 xs (i : Int)).f0.length : Int) < 0
  ·rw [if_pos h]; exact Ev.pos (by omega) (Ev.const (by rw [if_pos h]))
  ·rw [if_neg h, if_neg h]
   exact Ev.neg h (ih (i + 1) _ (by omega) (by omega) (by omega))
theorem szEntryS_ev (xs : List S32) (hn : xs.length ≤ 9223372036854775807) (hr : ∀ x ∈ xs, x.f0.length ≤ 9223372036854775807) {t : Int} (h0 : 0 ≤ t) (h1 : t ≤ 1048576) : Ev (fun k => laws_szEntryS.f k xs t) (szE t xs) := by
 unfold laws_szEntryS.f szE
 rw [w64 (by omega) (by omega)]
 by_cases h : t - (xs.length : Int) < 0
 ·rw [if_pos h]; exact Ev.pos h (Ev.const rfl)
 ·rw [if_neg h]; exact Ev.neg h (szEntryS_l0 xs hn hr xs.length 0 _ (by omega) (by omega) (by omega))
theorem toEntryS_l0 (xs : List S32) (hn : xs.length ≤ 9223372036854775807) (hr : ∀ x ∈ xs, x.f0.length ≤ 1048576) : ∀ (d i : Nat) (ys : List S34), i + d = xs.length → ys.length = xs.length → (∀ j, j < i → ys[j]? = (xs.map conv)[j]?) → Ev (fun k => laws_toEntryS.l0 k xs ys (i : Int)) (xs.map conv) := by
 intro d
 induction d with
 | zero =>
  intro i ys hd hl he
  refine Ev.up ?_
  simp only [laws_toEntryS.l0]
  refine Ev.neg (by omega) (Ev.const ?_)
  congr 1
  apply List.ext_getElem?
  intro j
  by_cases hj : j < i
  ·exact he j hj
  ·rw [List.getElem?_eq_none (by omega), List.getElem?_eq_none (by rw [List.length_map]; omega)]
 | succ d ih =>
  intro i ys hd hl he
  refine Ev.up ?_
  simp only [laws_toEntryS.l0, laws_toEntry.f]
  refine Ev.pos (by omega) (Ev.pos (by omega) ?_)
  have hm := rdLE_mem (xs := xs) (i := i) (by omega)
  refine Ev.then (a := ((rd_T32 xs (i : Int)).f0, (rd_T32 xs (i : Int)).f1)) (Ev.then (toInt64S_ev _ (hr _ hm)) (Ev.const rfl)) ?_
  refine Ev.pos (by omega) ?_
  rw [w64n (n := xs.length) (by omega) hn, Int.toNat_natCast]
  refine ih (i + 1) _ (by omega) (by simpa using hl) (fun j hj => ?_)
  rw [List.getElem?_set]
  by_cases e : i = j
  ·subst e
   rw [if_pos rfl, if_pos (by omega), List.getElem?_map, List.getElem?_eq_getElem (by omega), rdLE_at (by omega)]
   rfl
  ·rw [if_neg e]
   exact he j (by omega)
theorem toEntryS_ev (xs : List S32) (hn : xs.length ≤ 1048576) (hr : ∀ x ∈ xs, x.f0.length ≤ 1048576) : Ev (fun k => laws_toEntryS.f k xs) (xs.map conv) := by
 unfold laws_toEntryS.f
 refine Ev.pos (by omega) (Ev.pos (by omega) ?_)
 exact toEntryS_l0 xs (by omega) hr xs.length 0 _ (by omega) (by simp) (fun j hj => by omega)
theorem eqEntryS_l0 (xs : List S34) (hn : xs.length ≤ 9223372036854775807) (hr : ∀ x ∈ xs, x.f0.length ≤ 9223372036854775807) : ∀ (d i : Nat), i + d = xs.length → Ev (fun k => laws_eqEntryS.l0 k xs xs (i : Int)) true := by
 intro d
 induction d with
 | zero =>
  intro i hd
  refine Ev.up ?_
  simp only [laws_eqEntryS.l0]
  exact Ev.neg (by omega) (Ev.const rfl)
 | succ d ih =>
  intro i hd
  refine Ev.up ?_
  simp only [laws_eqEntryS.l0, laws_eqEntry.f]
  refine Ev.pos (by omega) (Ev.pos (by omega) (Ev.pos (by omega) ?_))
  have hm := rdE_mem (xs := xs) (i := i) (by omega)
  refine Ev.then (a := true) (Ev.then (eqInt64S_refl _ (hr _ hm)) (Ev.pos rfl (Ev.pos (by trivial) (Ev.const rfl)))) ?_
  refine Ev.pos rfl ?_
  rw [w64n (n := xs.length) (by omega) hn]
  exact ih (i + 1) (by omega)
theorem eqEntryS_refl (xs : List S34) (hn : xs.length ≤ 9223372036854775807) (hr : ∀ x ∈ xs, x.f0.length ≤ 9223372036854775807) : Ev (fun k => laws_eqEntryS.f k xs xs) true := by
 unfold laws_eqEntryS.f
 exact Ev.pos rfl (eqEntryS_l0 xs hn hr xs.length 0 (by omega))
/-- The rows are no longer than any machine's. -/
def Fine (l : List S34) : Prop := l.length ≤ 1048576 ∧ ∀ x ∈ l, x.f0.length ≤ 1048576
theorem Fine.n {l : List S34} (h : Fine l) : l.length ≤ 9223372036854775807 := by have := h.1; omega
theorem Fine.r {l : List S34} (h : Fine l) : ∀ x ∈ l, x.f0.length ≤ 9223372036854775807 := fun x hx => by have := h.2 x hx; omega
/-- What a law over one list of entries begins with: too much, or what is laid is as it came in. -/
theorem input_of {l : List S32} (hl : (fun l : List S32 => l.length ≤ maxLen ∧ ∀ y ∈ l, (fun x : S32 => (fun l : List Int => l.length ≤ maxLen ∧ ∀ y ∈ l, (fun x : Int => (Lit.int .i64 x).wf = true) y) x.f0 ∧ (fun x : Int => (Lit.int .i64 x).wf = true) x.f1) y) l) {t : Int} (h0 : 0 ≤ t) (h1 : t ≤ 1048576) :
  Ev (fun k => laws_szEntryS.f k l t) (szE t l) ∧ (¬ szE t l < 0 → szE t l ≤ 1048576 ∧ 0 ≤ szE t l ∧ Fine (l.map conv) ∧ Ev (fun k => laws_toEntryS.f k l) (l.map conv)) := by
 have hm : ∀ n : Nat, n ≤ maxLen → n ≤ 9223372036854775807 := fun n h => by simp only [maxLen] at h; omega
 refine ⟨szEntryS_ev l (hm _ hl.1) (fun x hx => hm _ (hl.2 x hx).1.1) h0 h1, fun h => ?_⟩
 have hb := szE_le (t := t) (l := l) (by omega)
 have hr : ∀ x ∈ l, x.f0.length ≤ 1048576 := fun x hx => by have := hb.2.2 x hx; omega
 refine ⟨by omega, by omega, ⟨by rw [List.length_map]; omega, fun x hx => ?_⟩, toEntryS_ev l (by omega) hr⟩
 obtain ⟨y, hy, rfl⟩ := List.mem_map.1 hx
 exact hr y hy
theorem cmpR_anti : ∀ xs ys : List Int, cmpR xs ys = - cmpR ys xs
 | [], [] => rfl
 | [], _ :: _ => rfl
 | _ :: _, [] => rfl
 | a :: xs, b :: ys => by
  simp only [cmpR]
  have ih := cmpR_anti xs ys
  by_cases h1 : a < b
  ·rw [if_pos h1, if_neg (by omega), if_pos h1]
  ·by_cases h2 : b < a
   ·rw [if_neg h1, if_pos h2, if_pos h2]; rfl
   ·rw [if_neg h1, if_neg h2, if_neg h2, if_neg h1]; exact ih
theorem specSet_l0 (xs : List S34) (hx : Fine xs) : ∀ (d i : Nat), i + d = xs.length → Ev (fun k => spec_SetFault.l0 k xs (i : Int)) (setG (prevE xs i) (xs.drop i)) := by
 have hn := hx.n
 intro d
 induction d with
 | zero =>
  intro i hd
  refine Ev.up ?_
  simp only [spec_SetFault.l0]
  refine Ev.neg (by omega) (Ev.const ?_)
  rw [List.drop_eq_nil_of_le (by omega)]; simp [setG]
 | succ d ih =>
  intro i hd
  have hm := hx.r _ (rdE_mem (xs := xs) (i := i) (by omega))
  have hj : ∀ b : Bool, b = ! decide (isW (rd_T34 xs (i : Int)).f1 = true ∧ (rd_T34 xs (i : Int)).f1 ≠ 0) → rowF (rd_T34 xs (i : Int)).f0 = 0 → Ev (fun k => spec_SetFault.j1 k xs (i : Int) b) (setG (prevE xs i) (xs.drop i)) := by
   intro b hb hrow
   rw [rdE_drop (xs := xs) (i := i) (by omega)]
   simp only [setG]
   rw [if_pos hrow]
   refine Ev.up ?_
   simp only [spec_SetFault.j1]
   by_cases hw : isW (rd_T34 xs (i : Int)).f1 = true ∧ (rd_T34 xs (i : Int)).f1 ≠ 0
   ·rw [if_pos hw]
    refine Ev.neg (by rw [hb]; simp [hw]) ?_
    by_cases h0 : i = 0
    ·subst h0
     refine Ev.neg (by omega) ?_
     rw [w64n (n := xs.length) (by omega) hn]
     have := ih 1 (by omega)
     rw [show prevE xs 1 = some (rd_T34 xs ((0 : Nat) : Int)).f0 from prevE_succ xs 0] at this
     simpa [prevE] using this
    ·refine Ev.pos (by omega) (Ev.pos (by omega) (Ev.pos (by omega) ?_))
     rw [w64p (by omega) (by omega)]
     refine Ev.pos (by omega) (Ev.pos (by omega) ?_)
     refine Ev.then (specCmp_ev _ _ hm) ?_
     rw [w64n (n := xs.length) (by omega) hn, show prevE xs i = some (rd_T34 xs ((i - 1 : Nat) : Int)).f0 from by simp [prevE, h0]]
     dsimp only
     rw [cmpR_anti (rd_T34 xs ((i - 1 : Nat) : Int)).f0]
     refine Ev.ite (fun hc => Ev.const ?_) (fun hc => ?_)
     ·rw [if_pos (by omega)]
     ·rw [if_neg (by omega), ← prevE_succ]
      exact ih (i + 1) (by omega)
   ·rw [if_neg hw]
    exact Ev.pos (by rw [hb]; simp only [hw, decide_false]; rfl) (Ev.const rfl)
  refine Ev.up ?_
  simp only [spec_SetFault.l0]
  refine Ev.pos (by omega) (Ev.pos (by omega) (Ev.then (specRow_ev _ hm) ?_))
  refine Ev.ite (fun hrow => ?_) (fun hrow => Ev.const ?_)
  ·rw [specWeight_eq]
   simp only [Option.bind_some]
   refine Ev.ite (fun hw => hj _ ?_ hrow) (fun hw => hj _ ?_ hrow)
   ·by_cases hz : (rd_T34 xs (i : Int)).f1 = 0 <;> simp [hw, hz]
   ·simp [hw]
  ·rw [rdE_drop (xs := xs) (i := i) (by omega)]
   simp only [setG]
   rw [if_neg hrow]
theorem specSet_ev (xs : List S34) (hx : Fine xs) : Ev (fun k => spec_SetFault.f k xs) (setF xs) := by
 unfold spec_SetFault.f setF
 refine Ev.ite (fun h => Ev.const ?_) (fun h => ?_)
 ·rw [if_pos (by omega)]
 ·rw [if_neg (by omega)]
  exact (specSet_l0 xs hx xs.length 0 (by omega)).eq (by simp [prevE])
theorem implSet_l0 (xs : List S34) (hx : Fine xs) : ∀ (d i : Nat), i + d = xs.length → Ev (fun k => impl_SetFault.l0 k xs xs (xs.length : Int) (i : Int)) (setG (prevE xs i) (xs.drop i)) := by
 have hn := hx.n
 intro d
 induction d with
 | zero =>
  intro i hd
  refine Ev.up ?_
  simp only [impl_SetFault.l0]
  refine Ev.neg (by omega) (Ev.const ?_)
  rw [List.drop_eq_nil_of_le (by omega)]; simp [setG]
 | succ d ih =>
  intro i hd
  have hm := hx.r _ (rdE_mem (xs := xs) (i := i) (by omega))
  have hj : ∀ b : Bool, b = ! decide (isW (rd_T34 xs (i : Int)).f1 = true ∧ (rd_T34 xs (i : Int)).f1 ≠ 0) → rowF (rd_T34 xs (i : Int)).f0 = 0 → Ev (fun k => impl_SetFault.j1 k xs (i : Int) xs (xs.length : Int) (i : Int) b (rd_T34 xs (i : Int)).f0 (rd_T34 xs (i : Int)).f1) (setG (prevE xs i) (xs.drop i)) := by
   intro b hb hrow
   rw [rdE_drop (xs := xs) (i := i) (by omega)]
   simp only [setG]
   rw [if_pos hrow]
   refine Ev.up ?_
   simp only [impl_SetFault.j1]
   by_cases hw : isW (rd_T34 xs (i : Int)).f1 = true ∧ (rd_T34 xs (i : Int)).f1 ≠ 0
   ·rw [if_pos hw]
    refine Ev.neg (by rw [hb]; simp [hw]) ?_
    by_cases h0 : i = 0
    ·subst h0
     refine Ev.neg (by omega) ?_
     rw [w64n (n := xs.length) (by omega) hn]
     have := ih 1 (by omega)
     rw [show prevE xs 1 = some (rd_T34 xs ((0 : Nat) : Int)).f0 from prevE_succ xs 0] at this
     simpa [prevE] using this
    ·refine Ev.pos (by omega) ?_
     rw [w64p (by omega) (by omega)]
     have hp := hx.r _ (rdE_mem (xs := xs) (i := i - 1) (by omega))
     refine Ev.pos (by omega) (Ev.pos (by omega) ?_)
     refine Ev.then (implCmp_ev _ _ hp) ?_
     rw [w64n (n := xs.length) (by omega) hn, show prevE xs i = some (rd_T34 xs ((i - 1 : Nat) : Int)).f0 from by simp [prevE, h0]]
     dsimp only
     refine Ev.ite (fun hc => Ev.const ?_) (fun hc => ?_)
     ·rw [if_pos (by omega)]
     ·rw [if_neg (by omega), ← prevE_succ]
      exact ih (i + 1) (by omega)
   ·rw [if_neg hw]
    exact Ev.pos (by rw [hb]; simp only [hw, decide_false]; rfl) (Ev.const rfl)
  refine Ev.up ?_
  simp only [impl_SetFault.l0]
  refine Ev.pos (by omega) (Ev.pos (by omega) (Ev.pos (by omega) (Ev.then (implRow_ev _ hm) ?_)))
  refine Ev.ite (fun hrow => ?_) (fun hrow => Ev.const ?_)
  ·rw [implWeight_eq]
   simp only [Option.bind_some]
   refine Ev.ite (fun hw => hj _ ?_ hrow) (fun hw => hj _ ?_ hrow)
   ·by_cases hz : (rd_T34 xs (i : Int)).f1 = 0 <;> simp [hw, hz]
   ·simp [hw]
  ·rw [rdE_drop (xs := xs) (i := i) (by omega)]
   simp only [setG]
   rw [if_neg hrow]
theorem implSet_ev (xs : List S34) (hx : Fine xs) : Ev (fun k => impl_SetFault.f k xs) (setF xs) := by
 unfold impl_SetFault.f setF
 refine Ev.ite (fun h => Ev.const ?_) (fun h => ?_)
 ·rw [if_pos (by omega)]
 ·rw [if_neg (by omega)]
  exact (implSet_l0 xs hx xs.length 0 (by omega)).eq (by simp [prevE])
/-- Bytes as a text. -/
def ba (l : List UInt8) : ByteArray := ⟨l.toArray⟩
theorem ba_size (l : List UInt8) : (ba l).size = l.length := by
 show l.toArray.size = _
 simp
theorem ba_app (a b : List UInt8) : ba a ++ ba b = ba (a ++ b) := by
 apply ByteArray.ext
 rw [ByteArray.data_append]
 simp [ba]
theorem ba_one (x : Int) (h0 : 0 ≤ x) (h1 : x < 256) : strOfNums [x] = ba [UInt8.ofNat x.toNat] := by
 unfold strOfNums ba
 congr 1
theorem dec_len (u : Nat) : (Lib.decDigits u).length ≤ u + 1 := by
 induction u using Nat.strongRecOn with
 | _ u ih =>
  rw [Lib.decDigits]
  by_cases h : u < 10
  ·rw [dif_pos h]; simp
  ·rw [dif_neg h, List.length_append]
   have := ih (u / 10) (by omega)
   simp only [List.length_cons, List.length_nil]
   omega
theorem itoa_len (n : Int) : (Lib.itoa n).length ≤ n.natAbs + 2 := by
 unfold Lib.itoa
 by_cases h : n < 0
 ·rw [if_pos h, List.length_cons]
  have := dec_len n.natAbs
  omega
 ·rw [if_neg h]
  have := dec_len n.toNat
  omega
/-- A row's cells, each with the blank behind it. -/
def cellsT (cs : List Int) : List UInt8 := (cs.map fun c => Lib.itoa c ++ [32]).flatten
def tailT (w : Int) : List UInt8 := [58, 32] ++ Lib.itoa w ++ [10]
def textT : List S34 → List UInt8
 | [] => []
 | x :: xs => cellsT x.f0 ++ tailT x.f1 ++ textT xs
theorem cellsT_len : ∀ (cs : List Int), (∀ c ∈ cs, -1000000000 ≤ c ∧ c ≤ 1000000000) → (cellsT cs).length ≤ cs.length * 1000000003
 | [], _ => by simp [cellsT]
 | c :: cs, h => by
  have ih := cellsT_len cs (fun x hx => h x (List.mem_cons_of_mem _ hx))
  have hc := h c (List.mem_cons_self ..)
  have hl := itoa_len c
  have e : cellsT (c :: cs) = Lib.itoa c ++ [32] ++ cellsT cs := by simp [cellsT]
  rw [e, List.length_append, List.length_append, List.length_cons, List.length_cons, List.length_nil]
  omega
theorem tailT_len (w : Int) (h : -1000000000000 ≤ w ∧ w ≤ 1000000000000) : (tailT w).length ≤ 1000000000005 := by
 have hl := itoa_len w
 unfold tailT
 simp only [List.length_append, List.length_cons, List.length_nil]
 omega
theorem textT_len : ∀ (l : List S34), (∀ x ∈ l, rowF x.f0 = 0 ∧ isW x.f1 = true) → (textT l).length ≤ l.length * 1010000000000
 | [], _ => by simp [textT]
 | x :: xs, h => by
  have ih := textT_len xs (fun y hy => h y (List.mem_cons_of_mem _ hy))
  obtain ⟨h1, h2⟩ := h x (List.mem_cons_self ..)
  obtain ⟨r1, r2⟩ := rowF_zero h1
  have hc := cellsT_len x.f0 r2
  have ht := tailT_len x.f1 (isW_iff.mp h2)
  unfold textT
  rw [List.length_append, List.length_append, List.length_cons]
  omega
theorem specDigits_ev (n : Nat) (hn : n ≤ 2000000000000) : Ev (fun k => spec_l2Digits.f k (n : Int)) (ba (Lib.decDigits n)) := by
 induction n using Nat.strongRecOn with
 | _ n ih =>
  refine Ev.up ?_
  simp only [spec_l2Digits.f]
  rw [Lib.decDigits]
  by_cases h : n < 10
  ·rw [dif_pos h]
   refine Ev.pos (by omega) (Ev.const ?_)
   have e : ((48 + (n : Int)) % 256).toNat = 48 + n := by omega
   rw [w64 (by omega) (by omega), ba_one _ (by omega) (by omega), e]
  ·rw [dif_neg h]
   have e1 : Int.tdiv (n : Int) 10 = ((n / 10 : Nat) : Int) := by rw [Int.tdiv_eq_ediv_of_nonneg (by omega)]; omega
   have e2 : Int.tmod (n : Int) 10 = ((n % 10 : Nat) : Int) := by rw [Int.tmod_eq_emod_of_nonneg (by omega)]; omega
   have hl := dec_len (n / 10)
   have w1 : wrap64 ((n / 10 : Nat) : Int) = ((n / 10 : Nat) : Int) := w64 (by omega) (by omega)
   have w2 : wrap64 (48 + ((n % 10 : Nat) : Int)) = 48 + ((n % 10 : Nat) : Int) := w64 (by omega) (by omega)
   simp only [e1, e2, w1, w2]
   refine Ev.neg (by omega) (Ev.then (ih (n / 10) (by omega) (by omega)) ?_)
   have e3 : ((48 + ((n % 10 : Nat) : Int)) % 256).toNat = 48 + n % 10 := by omega
   have e4 : strOfNums [(48 + ((n % 10 : Nat) : Int)) % 256] = ba [UInt8.ofNat (48 + n % 10)] := by rw [ba_one _ (by omega) (by omega), e3]
   simp only [Option.bind_some, e4]
   refine Ev.pos (by simp only [ba_size, List.length_cons, List.length_nil]; omega) (Ev.const ?_)
   rw [ba_app]
theorem specDecimal_ev (n : Int) (h0 : -1000000000000 ≤ n) (h1 : n ≤ 1000000000000) : Ev (fun k => spec_l2Decimal.f k n) (ba (Lib.itoa n)) := by
 unfold spec_l2Decimal.f Lib.itoa
 by_cases h : n < 0
 ·rw [if_pos h]
  have e : wrap64 (-n) = ((n.natAbs : Nat) : Int) := by rw [w64 (by omega) (by omega)]; omega
  have hl := dec_len n.natAbs
  rw [e]
  refine Ev.pos h (Ev.then (specDigits_ev n.natAbs (by omega)) (Ev.pos (by rw [ba_size]; omega) (Ev.const ?_)))
  exact congrArg some (ba_app [45] _)
 ·rw [if_neg h]
  have e : n = ((n.toNat : Nat) : Int) := by omega
  refine Ev.neg h ?_
  have := specDigits_ev n.toNat (by omega)
  rw [← e] at this
  exact Ev.then this (Ev.const rfl)
theorem cellsT_cons (c : Int) (cs : List Int) : cellsT (c :: cs) = Lib.itoa c ++ [32] ++ cellsT cs := by simp [cellsT]
theorem specText_l1 (xs : List S34) (hx : Fine xs) (hg : ∀ x ∈ xs, rowF x.f0 = 0 ∧ isW x.f1 = true) (i : Nat) (hi : i < xs.length)
  (next : ∀ acc : List UInt8, acc.length + (textT (xs.drop (i + 1))).length ≤ 4000000000000000000 → Ev (fun k => spec_l2Text.l0 k xs (ba acc) ((i + 1 : Nat) : Int)) (ba (acc ++ textT (xs.drop (i + 1))))) :
  ∀ (d j : Nat) (acc : List UInt8), j + d = (rd_T34 xs (i : Int)).f0.length → acc.length + (cellsT ((rd_T34 xs (i : Int)).f0.drop j) ++ tailT (rd_T34 xs (i : Int)).f1 ++ textT (xs.drop (i + 1))).length ≤ 4000000000000000000 →
   Ev (fun k => spec_l2Text.l1 k xs (ba acc) (i : Int) (j : Int)) (ba (acc ++ (cellsT ((rd_T34 xs (i : Int)).f0.drop j) ++ tailT (rd_T34 xs (i : Int)).f1 ++ textT (xs.drop (i + 1))))) := by
 obtain ⟨hrow, hw⟩ := hg _ (rdE_mem (xs := xs) (i := i) hi)
 obtain ⟨hr1, hr2⟩ := rowF_zero hrow
 have hwb := isW_iff.mp hw
 intro d
 induction d with
 | zero =>
  intro j acc hd hb
  have hdr : (rd_T34 xs (i : Int)).f0.drop j = [] := List.drop_eq_nil_of_le (by omega)
  rw [hdr] at hb ⊢
  have ec : cellsT [] = [] := rfl
  rw [ec, List.nil_append] at hb ⊢
  rw [List.length_append] at hb
  have et : (tailT (rd_T34 xs (i : Int)).f1).length = 2 + (Lib.itoa (rd_T34 xs (i : Int)).f1).length + 1 := by
   unfold tailT
   simp only [List.length_append, List.length_cons, List.length_nil]
  refine Ev.up ?_
  simp only [spec_l2Text.l1]
  refine Ev.pos (by omega) (Ev.pos (by omega) (Ev.neg (by omega) (Ev.pos (by rw [ba_size]; omega) (Ev.then (specDecimal_ev _ hwb.1 hwb.2) ?_))))
  have e1 : ba acc ++ (⟨#[58, 32]⟩ : ByteArray) = ba (acc ++ [58, 32]) := ba_app acc [58, 32]
  have e3 : ba (acc ++ [58, 32] ++ Lib.itoa (rd_T34 xs (i : Int)).f1) ++ (⟨#[10]⟩ : ByteArray) = ba (acc ++ [58, 32] ++ Lib.itoa (rd_T34 xs (i : Int)).f1 ++ [10]) := ba_app _ [10]
  simp only [e1, ba_app]
  refine Ev.pos (by simp only [ba_size, List.length_append, List.length_cons, List.length_nil]; omega) (Ev.pos (by simp only [ba_size, List.length_append, List.length_cons, List.length_nil]; omega) ?_)
  rw [e3, w64n (n := xs.length) (by omega) hx.n]
  refine (next _ (by simp only [List.length_append, List.length_cons, List.length_nil]; omega)).eq ?_
  congr 1
  simp [tailT]
 | succ d ih =>
  intro j acc hd hb
  have hj : j < (rd_T34 xs (i : Int)).f0.length := by omega
  have hdr : (rd_T34 xs (i : Int)).f0.drop j = (rd_T34 xs (i : Int)).f0[j] :: (rd_T34 xs (i : Int)).f0.drop (j + 1) := List.drop_eq_getElem_cons hj
  rw [hdr, cellsT_cons] at hb ⊢
  have hcb := hr2 _ (List.getElem_mem hj)
  simp only [List.length_append, List.length_cons, List.length_nil] at hb
  refine Ev.up ?_
  simp only [spec_l2Text.l1, rd_at hj]
  refine Ev.pos (by omega) (Ev.pos (by omega) (Ev.pos (by omega) (Ev.pos (by omega) (Ev.then (specDecimal_ev _ (by omega) (by omega)) ?_))))
  have e2 : ba (acc ++ Lib.itoa (rd_T34 xs (i : Int)).f0[j]) ++ (⟨#[32]⟩ : ByteArray) = ba (acc ++ Lib.itoa (rd_T34 xs (i : Int)).f0[j] ++ [32]) := ba_app _ [32]
  simp only [ba_app]
  refine Ev.pos (by simp only [ba_size]; omega) (Ev.pos (by simp only [ba_size, List.length_append]; omega) ?_)
  rw [e2, w64n (n := (rd_T34 xs (i : Int)).f0.length) (by omega) (by omega)]
  refine (ih (j + 1) _ (by omega) (by simp only [List.length_append, List.length_cons, List.length_nil]; omega)).eq ?_
  congr 1
  simp
theorem specText_l0 (xs : List S34) (hx : Fine xs) (hg : ∀ x ∈ xs, rowF x.f0 = 0 ∧ isW x.f1 = true) : ∀ (d i : Nat) (acc : List UInt8), i + d = xs.length → acc.length + (textT (xs.drop i)).length ≤ 4000000000000000000 → Ev (fun k => spec_l2Text.l0 k xs (ba acc) (i : Int)) (ba (acc ++ textT (xs.drop i))) := by
 intro d
 induction d with
 | zero =>
  intro i acc hd hb
  refine Ev.up ?_
  simp only [spec_l2Text.l0]
  refine Ev.neg (by omega) (Ev.const ?_)
  rw [List.drop_eq_nil_of_le (by omega)]
  simp [textT]
 | succ d ih =>
  intro i acc hd hb
  rw [rdE_drop (xs := xs) (i := i) (by omega)] at hb ⊢
  unfold textT at hb ⊢
  refine Ev.up ?_
  simp only [spec_l2Text.l0]
  refine Ev.pos (by omega) ?_
  exact specText_l1 xs hx hg i (by omega) (fun acc' hb' => ih (i + 1) acc' (by omega) hb') (rd_T34 xs (i : Int)).f0.length 0 acc (by omega) (by simpa using hb)
def textF (l : List S34) : ByteArray := if setF l = 0 then ba (textT l) else ba []
theorem setF_good {l : List S34} (h : setF l = 0) : (∀ x ∈ l, rowF x.f0 = 0 ∧ isW x.f1 = true) ∧ (textT l).length ≤ 202000000000000 := by
 obtain ⟨h1, h2⟩ := setF_ok h
 have hg : ∀ x ∈ l, rowF x.f0 = 0 ∧ isW x.f1 = true := fun x hx => ⟨(h2 x hx).1, (h2 x hx).2.1⟩
 have := textT_len l hg
 exact ⟨hg, by omega⟩
theorem specText_ev (l : List S34) (hx : Fine l) : Ev (fun k => spec_SetText.f k l) (textF l) := by
 unfold spec_SetText.f textF
 refine Ev.then (specSet_ev l hx) (Ev.ite2 (fun h => ?_) (fun _ => Ev.const rfl))
 obtain ⟨hg, hb⟩ := setF_good h
 have T : Ev (fun k => spec_l2Text.f k l) (ba (textT l)) := by
  unfold spec_l2Text.f
  exact specText_l0 l hx hg l.length 0 [] (by omega) (by simp only [List.length_nil, List.drop_zero]; omega)
 exact Ev.then T (Ev.const rfl)
theorem join_row : ∀ (cs : List Int) (w : Int), Lib.join (cs.map Lib.itoa ++ [[58], Lib.itoa w]) [32] = cellsT cs ++ [58, 32] ++ Lib.itoa w
 | [], w => by rw [List.map_nil, List.nil_append, Lib.join_cons]; simp [Lib.joinTail, cellsT]
 | c :: cs, w => by
  have ih := join_row cs w
  rw [List.map_cons, List.cons_append, Lib.join_cons]
  have e : ∀ (l : List (List UInt8)), l ≠ [] → Lib.joinTail [32] l = [32] ++ Lib.join l [32] := by
   intro l hl
   cases l with
   | nil => exact absurd rfl hl
   | cons y r => rw [Lib.join_cons]; simp [Lib.joinTail]
  rw [e _ (by simp), ih]
  simp [cellsT]
theorem dec_eq (n : Int) (h0 : -1000000000000 ≤ n) (h1 : n ≤ 1000000000000) : impl_decimal.f n = some (ba (Lib.itoa n)) := by
 unfold impl_decimal.f
 rw [if_pos ⟨by omega, by omega⟩]; rfl
theorem dataL (l : List (List UInt8)) : (l.map ba).map (fun b => b.data.toList) = l := by
 rw [List.map_map]
 exact (List.map_congr_left (fun x _ => by simp [ba])).trans (List.map_id l)
theorem implText_l1 (xs : List S34) (hx : Fine xs) (hg : ∀ x ∈ xs, rowF x.f0 = 0 ∧ isW x.f1 = true) (i : Nat) (hi : i < xs.length) (acc : List UInt8)
  (hb : acc.length + (cellsT (rd_T34 xs (i : Int)).f0 ++ tailT (rd_T34 xs (i : Int)).f1 ++ textT (xs.drop (i + 1))).length ≤ 4000000000000000000)
  (next : ∀ acc : List UInt8, acc.length + (textT (xs.drop (i + 1))).length ≤ 4000000000000000000 → Ev (fun k => impl_SetText.l0 k (ba acc) xs (xs.length : Int) ((i + 1 : Nat) : Int)) (ba (acc ++ textT (xs.drop (i + 1))))) :
  ∀ (d j : Nat), j + d = (rd_T34 xs (i : Int)).f0.length →
   Ev (fun k => impl_SetText.l1 k (ba acc) ((((rd_T34 xs (i : Int)).f0.take j).map Lib.itoa).map ba) xs (xs.length : Int) (i : Int) (rd_T34 xs (i : Int)).f0 ((rd_T34 xs (i : Int)).f0.length : Int) (j : Int) (rd_T34 xs (i : Int)).f0 (rd_T34 xs (i : Int)).f1) (ba (acc ++ (cellsT (rd_T34 xs (i : Int)).f0 ++ tailT (rd_T34 xs (i : Int)).f1 ++ textT (xs.drop (i + 1))))) := by
 obtain ⟨hrow, hw⟩ := hg _ (rdE_mem (xs := xs) (i := i) hi)
 obtain ⟨hr1, hr2⟩ := rowF_zero hrow
 have hwb := isW_iff.mp hw
 intro d
 induction d with
 | zero =>
  intro j hd
  have htk : (rd_T34 xs (i : Int)).f0.take j = (rd_T34 xs (i : Int)).f0 := List.take_of_length_le (by omega)
  rw [htk]
  have hcl := cellsT_len _ hr2
  have htl := tailT_len _ hwb
  have hil := itoa_len (rd_T34 xs (i : Int)).f1
  simp only [List.length_append] at hb
  have et : (tailT (rd_T34 xs (i : Int)).f1).length = 2 + (Lib.itoa (rd_T34 xs (i : Int)).f1).length + 1 := by
   unfold tailT
   simp only [List.length_append, List.length_cons, List.length_nil]
  refine Ev.up ?_
  simp only [impl_SetText.l1]
  refine Ev.neg (by omega) (Ev.call (dec_eq _ hwb.1 hwb.2) ?_)
  simp only [Option.bind_some]
  refine Ev.pos (by simp only [List.length_map, List.length_cons, List.length_nil]; omega) ?_
  have ej : strings_Join.f ((((rd_T34 xs (i : Int)).f0).map Lib.itoa).map ba ++ [(⟨#[58]⟩ : ByteArray), ba (Lib.itoa (rd_T34 xs (i : Int)).f1)]) (⟨#[32]⟩ : ByteArray) = some (ba (cellsT (rd_T34 xs (i : Int)).f0 ++ [58, 32] ++ Lib.itoa (rd_T34 xs (i : Int)).f1)) := by
   have e0 : (((rd_T34 xs (i : Int)).f0).map Lib.itoa).map ba ++ [(⟨#[58]⟩ : ByteArray), ba (Lib.itoa (rd_T34 xs (i : Int)).f1)] = (((rd_T34 xs (i : Int)).f0).map Lib.itoa ++ [[58], Lib.itoa (rd_T34 xs (i : Int)).f1]).map ba := by
    rw [List.map_append]; rfl
   have es : (⟨#[32]⟩ : ByteArray).data.toList = [32] := rfl
   rw [e0]
   unfold strings_Join.f
   rw [dataL, es, join_row]
   rw [if_pos ⟨by simp only [List.length_map, List.length_append, List.length_cons, List.length_nil]; omega, by simp only [List.length_append, List.length_cons, List.length_nil]; omega⟩]
   rfl
  refine Ev.call ej ?_
  have e3 : ba (cellsT (rd_T34 xs (i : Int)).f0 ++ [58, 32] ++ Lib.itoa (rd_T34 xs (i : Int)).f1) ++ (⟨#[10]⟩ : ByteArray) = ba (cellsT (rd_T34 xs (i : Int)).f0 ++ [58, 32] ++ Lib.itoa (rd_T34 xs (i : Int)).f1 ++ [10]) := ba_app _ [10]
  simp only [e3, ba_app]
  refine Ev.pos (by simp only [ba_size, List.length_append, List.length_cons, List.length_nil]; omega) (Ev.pos (by simp only [ba_size, List.length_append, List.length_cons, List.length_nil]; omega) ?_)
  rw [w64n (n := xs.length) (by omega) hx.n]
  refine (next _ (by simp only [List.length_append, List.length_cons, List.length_nil]; omega)).eq ?_
  congr 1
  simp [tailT]
 | succ d ih =>
  intro j hd
  have hj : j < (rd_T34 xs (i : Int)).f0.length := by omega
  have hcb := hr2 _ (List.getElem_mem hj)
  refine Ev.up ?_
  simp only [impl_SetText.l1, rd_at hj]
  refine Ev.pos (by omega) (Ev.pos (by omega) (Ev.pos (by omega) (Ev.call (dec_eq _ (by omega) (by omega)) (Ev.pos (by simp only [List.length_map, List.length_take]; omega) ?_))))
  rw [w64n (n := (rd_T34 xs (i : Int)).f0.length) (by omega) (by omega)]
  have e : (((rd_T34 xs (i : Int)).f0.take j).map Lib.itoa).map ba ++ [ba (Lib.itoa (rd_T34 xs (i : Int)).f0[j])] = (((rd_T34 xs (i : Int)).f0.take (j + 1)).map Lib.itoa).map ba := by
   rw [List.take_add_one, List.getElem?_eq_getElem hj, List.map_append, List.map_append]; rfl
  rw [e]
  exact ih (j + 1) (by omega)
theorem implText_l0 (xs : List S34) (hx : Fine xs) (hg : ∀ x ∈ xs, rowF x.f0 = 0 ∧ isW x.f1 = true) : ∀ (d i : Nat) (acc : List UInt8), i + d = xs.length → acc.length + (textT (xs.drop i)).length ≤ 4000000000000000000 → Ev (fun k => impl_SetText.l0 k (ba acc) xs (xs.length : Int) (i : Int)) (ba (acc ++ textT (xs.drop i))) := by
 intro d
 induction d with
 | zero =>
  intro i acc hd hb
  refine Ev.up ?_
  simp only [impl_SetText.l0]
  refine Ev.neg (by omega) (Ev.const ?_)
  rw [List.drop_eq_nil_of_le (by omega)]
  simp [textT]
 | succ d ih =>
  intro i acc hd hb
  rw [rdE_drop (xs := xs) (i := i) (by omega)] at hb ⊢
  unfold textT at hb ⊢
  refine Ev.up ?_
  simp only [impl_SetText.l0]
  refine Ev.pos (by omega) (Ev.pos (by omega) (Ev.pos (by omega) ?_))
  exact implText_l1 xs hx hg i (by omega) acc hb (fun acc' hb' => ih (i + 1) acc' (by omega) hb') (rd_T34 xs (i : Int)).f0.length 0 (by omega)
theorem implText_ev (l : List S34) (hx : Fine l) : Ev (fun k => impl_SetText.f k l) (textF l) := by
 unfold impl_SetText.f textF
 refine Ev.then (implSet_ev l hx) (Ev.ite2 (fun h => ?_) (fun _ => Ev.const rfl))
 obtain ⟨hg, hb⟩ := setF_good h
 exact implText_l0 l hx hg l.length 0 [] (by omega) (by simp only [List.length_nil, List.drop_zero]; omega)
theorem FnExactSetText : laws_FnExactSetText.Pure := by
 intro l hl _
 refine Ev.ex ?_
 unfold laws_FnExactSetText.f
 obtain ⟨hz, hin⟩ := input_of hl (t := 1048576) (by omega) (by omega)
 refine Ev.then hz (Ev.ite (fun _ => Ev.const rfl) (fun h => ?_))
 obtain ⟨_, _, hx, ht⟩ := hin h
 refine Ev.then ht (Ev.then (specText_ev _ hx) (Ev.then ht (Ev.then (implText_ev _ hx) ?_)))
 refine Ev.pos rfl (Ev.then ht (Ev.then (eqEntryS_refl _ hx.n hx.r) ?_))
 exact Ev.const rfl

end Go.Proofs.YthnbghcfjkmpoaaDoor.Pure
