/- The law FnExactHashRow answers true for every row of whole numbers. -/
import Derived.Test.YtljfhfkmbgkpoaaKit
import Derived.Test.YtljfhfkmbgkpoaaPFnExactHashRowx1
namespace Go.Proofs.Ytljfhfkmbgkpoaa.Pure
open Go.RowKit Go.Proofs.Ytljfhfkmbgkpoaa.PFnExactHashRow Go.Proofs.YtljfhfkmbgkpoaaW.PrintWords Go.Proofs.YtljfhfkmbgkpoaaW.PrintLast Go.Proofs.Ytljfhfkmbgkpoaa

theorem w64n {i n : Nat} (h : i < n) (hn : n ≤ 9223372036854775807) : wrap64 ((i : Int) + 1) = ((i + 1 : Nat) : Int) := by
  rw [Kit.w64 (by omega) (by omega)]; rfl
theorem rd_drop {xs : List Int} {i : Nat} (h : i < xs.length) : xs.drop i = rd xs (i : Int) :: xs.drop (i + 1) := by
  rw [Kit.rd_at h]; exact List.drop_eq_getElem_cons h
theorem toInt64S_l0 (xs : List Int) (hn : xs.length ≤ 9223372036854775807) : ∀ (d i : Nat) (ys : List Int), i + d = xs.length → ys.length = xs.length → (∀ j, j < i → ys[j]? = xs[j]?) → Ev (fun k => laws_toInt64S.l0 k xs ys (i : Int)) xs := by
  intro d
  induction d with
  | zero =>
    intro i ys hd hl he
    refine Kit.Ev.up ?_
    simp only [laws_toInt64S.l0]
    refine Kit.Ev.neg (by omega) (Kit.Ev.const ?_)
    congr 1
    apply List.ext_getElem?
    intro j
    by_cases hj : j < i
    · exact he j hj
    · rw [List.getElem?_eq_none (by omega), List.getElem?_eq_none (by omega)]
  | succ d ih =>
    intro i ys hd hl he
    refine Kit.Ev.up ?_
    simp only [laws_toInt64S.l0]
    refine Kit.Ev.pos (by omega) (Kit.Ev.pos (by omega) (Kit.Ev.pos (by omega) ?_))
    rw [w64n (n := xs.length) (by omega) hn, Int.toNat_natCast]
    refine ih (i + 1) _ (by omega) (by simpa using hl) (fun j hj => ?_)
    rw [List.getElem?_set]
    by_cases e : i = j
    · subst e
      rw [if_pos rfl, if_pos (by omega), Kit.rd_at (by omega), List.getElem?_eq_getElem (by omega)]
    · rw [if_neg e]
      exact he j (by omega)
theorem toInt64S_ev (xs : List Int) (hn : xs.length ≤ 1048576) : Ev (fun k => laws_toInt64S.f k xs) xs := by
  unfold laws_toInt64S.f
  refine Kit.Ev.pos (by omega) (Kit.Ev.pos (by omega) ?_)
  exact toInt64S_l0 xs (by omega) xs.length 0 _ (by omega) (by simp) (fun j hj => by omega)
theorem eqInt64S_l0 (xs ys : List Int) (hn : xs.length ≤ 9223372036854775807) (hl : xs.length = ys.length) : ∀ (d i : Nat), i + d = xs.length → Ev (fun k => laws_eqInt64S.l0 k xs ys (i : Int)) (decide (xs.drop i = ys.drop i)) := by
  intro d
  induction d with
  | zero =>
    intro i hd
    refine Kit.Ev.up ?_
    simp only [laws_eqInt64S.l0]
    refine Kit.Ev.neg (by omega) (Kit.Ev.const ?_)
    rw [List.drop_eq_nil_of_le (by omega), List.drop_eq_nil_of_le (by omega)]; simp
  | succ d ih =>
    intro i hd
    refine Kit.Ev.up ?_
    simp only [laws_eqInt64S.l0]
    refine Kit.Ev.pos (by omega) (Kit.Ev.pos (by omega) (Kit.Ev.pos (by omega) ?_))
    rw [rd_drop (xs := xs) (i := i) (by omega), rd_drop (xs := ys) (i := i) (by omega), w64n (n := xs.length) (by omega) hn]
    refine Kit.Ev.ite (fun h => ?_) (fun h => Kit.Ev.const ?_)
    · exact (ih (i + 1) (by omega)).eq (by rw [h]; simp)
    · simp [h]
theorem eqInt64S_ev (xs ys : List Int) (hn : xs.length ≤ 9223372036854775807) : Ev (fun k => laws_eqInt64S.f k xs ys) (decide (xs = ys)) := by
  unfold laws_eqInt64S.f
  refine Kit.Ev.ite (fun h => ?_) (fun h => Kit.Ev.const ?_)
  · exact (eqInt64S_l0 xs ys hn (by omega) xs.length 0 (by omega)).eq (by simp)
  · have : xs ≠ ys := fun e => h (by rw [e])
    simp [this]
theorem eqInt64S_refl (xs : List Int) (hn : xs.length ≤ 9223372036854775807) : Ev (fun k => laws_eqInt64S.f k xs xs) true := (eqInt64S_ev xs xs hn).eq (by simp)
def hashS (h c : Int) : Int := Int.tmod (wrap64 ((wrap64 (h * 131)) + (Int.tmod (wrap64 ((Int.tmod c 1000003) + 1000003)) 1000003))) 1000003
theorem specHash_l0 (xs : List Int) (hn : xs.length ≤ 9223372036854775807) : ∀ (d i : Nat) (h : Int), i + d = xs.length → Ev (fun k => spec_HashRow.l0 k xs h (i : Int)) ((xs.drop i).foldl hashS h) := by
  intro d
  induction d with
  | zero =>
    intro i h hd
    refine Kit.Ev.up ?_
    simp only [spec_HashRow.l0]
    refine Kit.Ev.neg (by omega) (Kit.Ev.const ?_)
    rw [List.drop_eq_nil_of_le (by omega)]; rfl
  | succ d ih =>
    intro i h hd
    refine Kit.Ev.up ?_
    simp only [spec_HashRow.l0]
    refine Kit.Ev.pos (by omega) (Kit.Ev.pos (by omega) ?_)
    rw [rd_drop (xs := xs) (i := i) (by omega), w64n (n := xs.length) (by omega) hn]
    exact ih (i + 1) _ (by omega)
theorem specHash_ev (xs : List Int) (hn : xs.length ≤ 9223372036854775807) : Ev (fun k => spec_HashRow.f k xs) (xs.foldl hashS 17) := specHash_l0 xs hn xs.length 0 17 (by omega)
theorem implHash_l0 (xs : List Int) (hn : xs.length ≤ 9223372036854775807) : ∀ (d i : Nat) (h : Int), i + d = xs.length → Ev (fun k => impl_HashRow.l0 k h xs (xs.length : Int) (i : Int)) ((xs.drop i).foldl hashS h) := by
  intro d
  induction d with
  | zero =>
    intro i h hd
    refine Kit.Ev.up ?_
    simp only [impl_HashRow.l0]
    refine Kit.Ev.neg (by omega) (Kit.Ev.const ?_)
    rw [List.drop_eq_nil_of_le (by omega)]; rfl
  | succ d ih =>
    intro i h hd
    refine Kit.Ev.up ?_
    simp only [impl_HashRow.l0]
    refine Kit.Ev.pos (by omega) (Kit.Ev.pos (by omega) (Kit.Ev.pos (by omega) ?_))
    rw [rd_drop (xs := xs) (i := i) (by omega), w64n (n := xs.length) (by omega) hn]
    exact ih (i + 1) _ (by omega)
theorem implHash_ev (xs : List Int) (hn : xs.length ≤ 9223372036854775807) : Ev (fun k => impl_HashRow.f k xs) (xs.foldl hashS 17) := implHash_l0 xs hn xs.length 0 17 (by omega)
theorem FnExactHashRow : laws_FnExactHashRow.Pure := by
  intro l hm _ _
  refine Kit.Ev.ex ?_
  unfold laws_FnExactHashRow.f
  refine Kit.Ev.ite (fun _ => Kit.Ev.const rfl) (fun h => ?_)
  have hn : l.length ≤ 1048576 := by omega
  refine Kit.Ev.then (toInt64S_ev l hn) (Kit.Ev.then (specHash_ev l (by omega)) (Kit.Ev.then (toInt64S_ev l hn) (Kit.Ev.then (implHash_ev l (by omega)) ?_)))
  refine Kit.Ev.pos rfl (Kit.Ev.then (toInt64S_ev l hn) (Kit.Ev.then (eqInt64S_refl l (by omega)) ?_))
  exact Kit.Ev.const rfl

end Go.Proofs.Ytljfhfkmbgkpoaa.Pure
