/- The law FnExactAddSets answers true for every two lists of entries. -/
import Derived.Test.YthgmicingbjemaaKit
import Derived.Test.YthgmicingbjemaaVFnExactAddSets
namespace Go.Proofs.Ythgmicingbjemaa.Pure
open Go.RowKit Go.Proofs.Ythgmicingbjemaa.PFnExactAddSets Go.Proofs.YthgmicingbjemaaW.PrintWords Go.Proofs.YthgmicingbjemaaW.PrintLast Go.Proofs.Ythgmicingbjemaa Go.Proofs.Ythgmicingbjemaa.Kit
set_option linter.unusedSimpArgs false
set_option linter.unusedVariables false

theorem w64n {i n : Nat} (h : i < n) (hn : n ≤ 9223372036854775807) : wrap64 ((i : Int) + 1) = ((i + 1 : Nat) : Int) := by
 rw [w64 (by omega) (by omega)]; rfl
theorem rd_drop {xs : List Int} {i : Nat} (h : i < xs.length) : xs.drop i = rd xs (i : Int) :: xs.drop (i + 1) := by
 rw [rd_at h]; exact List.drop_eq_getElem_cons h
theorem toInt64S_l0 (xs : List Int) (hn : xs.length ≤ 9223372036854775807) : ∀ (d i : Nat) (ys : List Int), i + d = xs.length → ys.length = xs.length → (∀ j, j < i → ys[j]? = xs[j]?) → Ev (fun k => laws_toInt64S.l0 k xs ys (i : Int)) xs := by
 intro d
 induction d with
 | zero =>
  intro i ys hd hl he
  refine Ev.up ?_
  simp only [laws_toInt64S.l0]
  refine Ev.neg (by omega) (Ev.const ?_)
  congr 1
  apply List.ext_getElem?
  intro j
  by_cases hj : j < i
  ·exact he j hj
  ·rw [List.getElem?_eq_none (by omega), List.getElem?_eq_none (by omega)]
 | succ d ih =>
  intro i ys hd hl he
  refine Ev.up ?_
  simp only [laws_toInt64S.l0]
  refine Ev.pos (by omega) (Ev.pos (by omega) (Ev.pos (by omega) ?_))
  rw [w64n (n := xs.length) (by omega) hn, Int.toNat_natCast]
  refine ih (i + 1) _ (by omega) (by simpa using hl) (fun j hj => ?_)
  rw [List.getElem?_set]
  by_cases e : i = j
  ·subst e
   rw [if_pos rfl, if_pos (by omega), rd_at (by omega), List.getElem?_eq_getElem (by omega)]
  ·rw [if_neg e]
   exact he j (by omega)
theorem toInt64S_ev (xs : List Int) (hn : xs.length ≤ 1048576) : Ev (fun k => laws_toInt64S.f k xs) xs := by
 unfold laws_toInt64S.f
 refine Ev.pos (by omega) (Ev.pos (by omega) ?_)
 exact toInt64S_l0 xs (by omega) xs.length 0 _ (by omega) (by simp) (fun j hj => by omega)
theorem eqInt64S_l0 (xs ys : List Int) (hn : xs.length ≤ 9223372036854775807) (hl : xs.length = ys.length) : ∀ (d i : Nat), i + d = xs.length → Ev (fun k => laws_eqInt64S.l0 k xs ys (i : Int)) (decide (xs.drop i = ys.drop i)) := by
 intro d
 induction d with
 | zero =>
  intro i hd
  refine Ev.up ?_
  simp only [laws_eqInt64S.l0]
  refine Ev.neg (by omega) (Ev.const ?_)
  rw [List.drop_eq_nil_of_le (by omega), List.drop_eq_nil_of_le (by omega)]; simp
 | succ d ih =>
  intro i hd
  refine Ev.up ?_
  simp only [laws_eqInt64S.l0]
  refine Ev.pos (by omega) (Ev.pos (by omega) (Ev.pos (by omega) ?_))
  rw [rd_drop (xs := xs) (i := i) (by omega), rd_drop (xs := ys) (i := i) (by omega), w64n (n := xs.length) (by omega) hn]
  refine Ev.ite (fun h => ?_) (fun h => Ev.const ?_)
  ·exact (ih (i + 1) (by omega)).eq (by rw [h]; simp)
  ·simp [h]
theorem eqInt64S_ev (xs ys : List Int) (hn : xs.length ≤ 9223372036854775807) : Ev (fun k => laws_eqInt64S.f k xs ys) (decide (xs = ys)) := by
 unfold laws_eqInt64S.f
 refine Ev.ite (fun h => ?_) (fun h => Ev.const ?_)
 ·exact (eqInt64S_l0 xs ys hn (by omega) xs.length 0 (by omega)).eq (by simp)
 ·have : xs ≠ ys := fun e => h (by rw [e])
  simp [this]
theorem eqInt64S_refl (xs : List Int) (hn : xs.length ≤ 9223372036854775807) : Ev (fun k => laws_eqInt64S.f k xs xs) true := (eqInt64S_ev xs xs hn).eq (by simp)
theorem specIn_eq (a b c : Int) : spec_l1In.f a b c = some (decide (b ≤ a ∧ a ≤ c)) := by
 unfold spec_l1In.f
 by_cases h : a ≥ b
 ·rw [if_pos h]; simp [show b ≤ a from h]
 ·rw [if_neg h]; simp; intro h'; omega
theorem implIn_eq (a b c : Int) : impl_in.f a b c = some (decide (b ≤ a ∧ a ≤ c)) := by
 unfold impl_in.f
 by_cases h : a ≥ b
 ·rw [if_pos h]; simp [show b ≤ a from h]
 ·rw [if_neg h]; simp; intro h'; omega
def isW (x : Int) : Bool := decide (-1000000000000 ≤ x ∧ x ≤ 1000000000000)
theorem isW_iff {x : Int} : isW x = true ↔ -1000000000000 ≤ x ∧ x ≤ 1000000000000 := by simp [isW]
def addW (a b : Int) : Int × Int := if isW a = true ∧ isW b = true then (if isW (a + b) = true then (0, a + b) else (8, 0)) else (3, 0)
theorem addW_comm (a b : Int) : addW a b = addW b a := by
 unfold addW
 rw [Int.add_comm b a]; simp only [and_comm]
def mulP (a b : Int) : Int × Bool := if (a * b).natAbs ≤ 1000000000000 then (a * b, true) else (0, false)
theorem mulP_comm (a b : Int) : mulP a b = mulP b a := by
 unfold mulP
 rw [Int.mul_comm b a]
def mulW (a b : Int) : Int × Int := if isW a = true ∧ isW b = true then (if (mulP a b).2 = true then (0, (mulP a b).1) else (8, 0)) else (3, 0)
theorem mulW_comm (a b : Int) : mulW a b = mulW b a := by
 unfold mulW
 rw [mulP_comm b a]; simp only [and_comm]
theorem specWeight_eq (a : Int) : spec_l1Weight.f a = some (isW a) := by
 unfold spec_l1Weight.f
 rw [specIn_eq]; rfl
theorem implWeight_eq (a : Int) : impl_isWeight.f a = some (isW a) := by
 unfold impl_isWeight.f
 rw [implIn_eq]; rfl
def inC (x : Int) : Bool := decide (-1000000000 ≤ x ∧ x ≤ 1000000000)
def rowF (xs : List Int) : Int := if 4 < xs.length then 2 else if xs.all inC = true then 0 else 3
theorem specRow_l0 (xs : List Int) (hn : xs.length ≤ 9223372036854775807) : ∀ (d i : Nat), i + d = xs.length → Ev (fun k => spec_RowFault.l0 k xs (i : Int)) (if (xs.drop i).all inC = true then 0 else 3) := by
 intro d
 induction d with
 | zero =>
  intro i hd
  refine Ev.up ?_
  simp only [spec_RowFault.l0]
  refine Ev.neg (by omega) (Ev.const ?_)
  rw [List.drop_eq_nil_of_le (by omega)]; simp
 | succ d ih =>
  intro i hd
  refine Ev.up ?_
  simp only [spec_RowFault.l0]
  refine Ev.pos (by omega) (Ev.pos (by omega) ?_)
  rw [specIn_eq]
  simp only [Option.bind_some]
  rw [rd_drop (xs := xs) (i := i) (by omega), w64n (n := xs.length) (by omega) hn]
  by_cases h : inC (rd xs (i : Int)) = true
  ·refine Ev.pos h ((ih (i + 1) (by omega)).eq ?_)
   simp [h]
  ·refine Ev.neg h (Ev.const ?_)
   simp [h]
theorem specRow_ev (xs : List Int) (hn : xs.length ≤ 9223372036854775807) : Ev (fun k => spec_RowFault.f k xs) (rowF xs) := by
 unfold spec_RowFault.f
 refine Ev.ite (fun h => Ev.const ?_) (fun h => ?_)
 ·simp [rowF, show 4 < xs.length by omega]
 ·exact (specRow_l0 xs hn xs.length 0 (by omega)).eq (by simp [rowF, show ¬ 4 < xs.length by omega])
theorem implRow_l0 (xs : List Int) (hn : xs.length ≤ 9223372036854775807) : ∀ (d i : Nat), i + d = xs.length → Ev (fun k => impl_RowFault.l0 k xs (xs.length : Int) (i : Int)) (if (xs.drop i).all inC = true then 0 else 3) := by
 intro d
 induction d with
 | zero =>
  intro i hd
  refine Ev.up ?_
  simp only [impl_RowFault.l0]
  refine Ev.neg (by omega) (Ev.const ?_)
  rw [List.drop_eq_nil_of_le (by omega)]; simp
 | succ d ih =>
  intro i hd
  refine Ev.up ?_
  simp only [impl_RowFault.l0]
  refine Ev.pos (by omega) (Ev.pos (by omega) (Ev.pos (by omega) ?_))
  rw [implIn_eq]
  simp only [Option.bind_some]
  rw [rd_drop (xs := xs) (i := i) (by omega), w64n (n := xs.length) (by omega) hn]
  by_cases h : inC (rd xs (i : Int)) = true
  ·refine Ev.pos h ((ih (i + 1) (by omega)).eq ?_)
   simp [h]
  ·refine Ev.neg h (Ev.const ?_)
   simp [h]
theorem implRow_ev (xs : List Int) (hn : xs.length ≤ 9223372036854775807) : Ev (fun k => impl_RowFault.f k xs) (rowF xs) := by
 unfold impl_RowFault.f
 refine Ev.ite (fun h => Ev.const ?_) (fun h => ?_)
 ·simp [rowF, show 4 < xs.length by omega]
 ·exact (implRow_l0 xs hn xs.length 0 (by omega)).eq (by simp [rowF, show ¬ 4 < xs.length by omega])
def cmpR : List Int → List Int → Int
 | [], [] => 0
 | [], _ :: _ => -1
 | _ :: _, [] => 1
 | a :: xs, b :: ys => if a < b then -1 else if b < a then 1 else cmpR xs ys
theorem cmpR_len : ∀ (xs ys : List Int), xs = [] ∨ ys = [] → cmpR xs ys = if xs.length < ys.length then -1 else if ys.length < xs.length then 1 else 0
 | [], [], _ => rfl
 | [], _ :: _, _ => by simp [cmpR]
 | _ :: _, [], _ => by simp [cmpR]
 | _ :: _, _ :: _, h => by simp at h
theorem specCmp_l0 (xs ys : List Int) (hn : xs.length ≤ 9223372036854775807) : ∀ (d i : Nat), i + d = min xs.length ys.length → Ev (fun k => spec_CompareRows.l0 k xs ys (i : Int)) (cmpR (xs.drop i) (ys.drop i)) := by
 intro d
 induction d with
 | zero =>
  intro i hd
  refine Ev.up (Ev.up ?_)
  simp only [spec_CompareRows.l0, spec_CompareRows.j1]
  have hend : Ev (fun _ : Nat => if (xs.length : Int) < (ys.length : Int) then some (-1 : Int) else if (xs.length : Int) > (ys.length : Int) then some 1 else some 0) (cmpR (xs.drop i) (ys.drop i)) := by
   refine Ev.const ?_
   rw [cmpR_len _ _ (by
    by_cases h : i = xs.length
    ·exact .inl (List.drop_eq_nil_of_le (by omega))
    ·exact .inr (List.drop_eq_nil_of_le (by omega)))]
   simp only [List.length_drop]
   by_cases h1 : xs.length < ys.length
   ·rw [if_pos (by omega), if_pos (by omega)]
   ·by_cases h2 : ys.length < xs.length
    ·rw [if_neg (by omega), if_pos (by omega), if_neg (by omega), if_pos (by omega)]
    ·rw [if_neg (by omega), if_neg (by omega), if_neg (by omega), if_neg (by omega)]
  refine Ev.ite (fun h => ?_) (fun h => ?_)
  ·refine Ev.neg (by simp; omega) hend
  ·exact Ev.neg (by simp) hend
 | succ d ih =>
  intro i hd
  refine Ev.up (Ev.up ?_)
  simp only [spec_CompareRows.l0, spec_CompareRows.j1]
  refine Ev.pos (by omega) (Ev.pos (by simp; omega) (Ev.pos (by omega) (Ev.pos (by omega) (Ev.pos (by omega) ?_))))
  rw [rd_drop (xs := xs) (i := i) (by omega), rd_drop (xs := ys) (i := i) (by omega), w64n (n := xs.length) (by omega) hn]
  simp only [cmpR]
  refine Ev.ite2 (fun _ => Ev.const rfl) (fun _ => ?_)
  exact Ev.ite2 (fun _ => Ev.const rfl) (fun _ => ih (i + 1) (by omega))
theorem specCmp_ev (xs ys : List Int) (hn : xs.length ≤ 9223372036854775807) : Ev (fun k => spec_CompareRows.f k xs ys) (cmpR xs ys) := specCmp_l0 xs ys hn _ 0 (Nat.zero_add _)
theorem cmp64_eq (a b : Int) : cmp_Compare_int64.f a b = some (if a < b then -1 else if b < a then 1 else 0) := by
 unfold cmp_Compare_int64.f cmp_isNaN_int64.f
 simp only [bne_self_eq_false, Option.bind_some, Bool.false_eq_true, if_false]
 by_cases h1 : a < b
 ·simp [h1]
 ·by_cases h2 : b < a <;> simp [h1, h2]
theorem cmpI_eq (a b : Int) : cmp_Compare_int.f a b = some (if a < b then -1 else if b < a then 1 else 0) := by
 unfold cmp_Compare_int.f cmp_isNaN_int.f
 simp only [bne_self_eq_false, Option.bind_some, Bool.false_eq_true, if_false]
 by_cases h1 : a < b
 ·simp [h1]
 ·by_cases h2 : b < a <;> simp [h1, h2]
theorem implCmp_l0 (xs ys : List Int) (hn : xs.length ≤ 9223372036854775807) : ∀ (d i : Nat), i + d = min xs.length ys.length → Ev (fun k => impl_CompareRows.l0 k xs ys ((min xs.length ys.length : Nat) : Int) (i : Int)) (cmpR (xs.drop i) (ys.drop i)) := by
 intro d
 induction d with
 | zero =>
  intro i hd
  refine Ev.up ?_
  simp only [impl_CompareRows.l0]
  refine Ev.neg (by omega) ?_
  rw [cmpI_eq]
  refine Ev.const ?_
  rw [cmpR_len _ _ (by
   by_cases h : i = xs.length
   ·exact .inl (List.drop_eq_nil_of_le (by omega))
   ·exact .inr (List.drop_eq_nil_of_le (by omega)))]
  simp only [List.length_drop, Option.bind_some]
  by_cases h1 : xs.length < ys.length
  ·rw [if_pos (by omega), if_pos (by omega)]
  ·by_cases h2 : ys.length < xs.length
   ·rw [if_neg (by omega), if_pos (by omega), if_neg (by omega), if_pos (by omega)]
   ·rw [if_neg (by omega), if_neg (by omega), if_neg (by omega), if_neg (by omega)]
 | succ d ih =>
  intro i hd
  refine Ev.up ?_
  simp only [impl_CompareRows.l0]
  refine Ev.pos (by omega) (Ev.pos (by omega) (Ev.pos (by omega) (Ev.pos (by omega) ?_)))
  rw [rd_drop (xs := xs) (i := i) (by omega), rd_drop (xs := ys) (i := i) (by omega), w64n (n := xs.length) (by omega) hn, cmp64_eq]
  simp only [cmpR, Option.bind_some]
  by_cases h1 : rd xs (i : Int) < rd ys (i : Int)
  ·simp only [h1, if_true]; exact Ev.const rfl
  ·by_cases h2 : rd ys (i : Int) < rd xs (i : Int)
   ·simp only [h1, h2, if_true, if_false]; exact Ev.const rfl
   ·simp only [h1, h2, if_true, if_false]; exact ih (i + 1) (by omega)
theorem implCmp_ev (xs ys : List Int) (hn : xs.length ≤ 9223372036854775807) : Ev (fun k => impl_CompareRows.f k xs ys) (cmpR xs ys) := by
 unfold impl_CompareRows.f
 refine Ev.ite (fun h => ?_) (fun h => ?_)
 ·have := implCmp_l0 xs ys hn _ 0 (Nat.zero_add _)
  rwa [Nat.min_eq_right (by omega)] at this
 ·have := implCmp_l0 xs ys hn _ 0 (Nat.zero_add _)
  rwa [Nat.min_eq_left (by omega)] at this
def eE (x : S42) : Sum.En := (x.f0, x.f1)
def dE (p : Sum.En) : S42 := ⟨p.1, p.2⟩
theorem dE_eE (l : List S42) : (l.map eE).map dE = l := by rw [List.map_map]; exact List.map_id _
def putE : List S42 → S42 → List S42
 | [], e => [e]
 | x :: xs, e => if cmpR x.f0 e.f0 < 0 then x :: putE xs e else if cmpR x.f0 e.f0 = 0 then ⟨x.f0, wrap64 (x.f1 + e.f1)⟩ :: xs else e :: x :: xs
theorem cmpR_sum : ∀ a b : List Int, cmpR a b = Sum.cmpR a b
 | [], [] => rfl
 | [], _ :: _ => rfl
 | _ :: _, [] => rfl
 | x :: xs, y :: ys => by unfold cmpR Sum.cmpR; rw [cmpR_sum xs ys]
theorem putE_sum : ∀ (l : List S42) (e : S42), (putE l e).map eE = Sum.put (l.map eE) (eE e)
 | [], _ => rfl
 | x :: xs, e => by
  rw [List.map_cons]
  unfold putE Sum.put
  rw [cmpR_sum]
  show _ = if Sum.cmpR x.f0 e.f0 < 0 then _ else if Sum.cmpR x.f0 e.f0 = 0 then _ else _
  by_cases h1 : Sum.cmpR x.f0 e.f0 < 0
  ·rw [if_pos h1, if_pos h1, List.map_cons, putE_sum xs e]
  ·rw [if_neg h1, if_neg h1]
   by_cases h2 : Sum.cmpR x.f0 e.f0 = 0
   ·rw [if_pos h2, if_pos h2]; rfl
   ·rw [if_neg h2, if_neg h2]; rfl
theorem foldE_sum : ∀ (l s : List S42), (l.foldl putE s).map eE = (l.map eE).foldl Sum.put (s.map eE)
 | [], _ => rfl
 | x :: xs, s => by rw [List.foldl_cons, List.map_cons, List.foldl_cons, foldE_sum xs, putE_sum]
theorem putE_len : ∀ (l : List S42) (e : S42), (putE l e).length ≤ l.length + 1
 | [], _ => by simp [putE]
 | x :: xs, e => by
  have := putE_len xs e
  unfold putE
  split
  ·simp only [List.length_cons]; omega
  ·split <;> simp only [List.length_cons] <;> omega
theorem putE_rows : ∀ (l : List S42) (e : S42) {n : Nat}, (∀ x ∈ l, x.f0.length ≤ n) → e.f0.length ≤ n → ∀ x ∈ putE l e, x.f0.length ≤ n
 | [], e, n, _, he => by intro x hx; unfold putE at hx; rw [List.mem_singleton.mp hx]; exact he
 | y :: ys, e, n, hl, he => by
  have ih := putE_rows ys e (n := n) (fun x hx => hl x (List.mem_cons_of_mem _ hx)) he
  have hy := hl y (List.mem_cons_self ..)
  intro x hx
  unfold putE at hx
  split at hx
  ·rcases List.mem_cons.mp hx with rfl | hx
   ·exact hy
   ·exact ih x hx
  ·split at hx
   ·rcases List.mem_cons.mp hx with rfl | hx
    ·exact hy
    ·exact hl x (List.mem_cons_of_mem _ hx)
   ·rcases List.mem_cons.mp hx with rfl | hx
    ·exact he
    ·exact hl x hx
/-- The rows are no longer than any machine's. -/
def Fine (l : List S42) : Prop := l.length ≤ 1048576 ∧ ∀ x ∈ l, x.f0.length ≤ 1048576
theorem Fine.n {l : List S42} (h : Fine l) : l.length ≤ 9223372036854775807 := by have := h.1; omega
theorem Fine.r {l : List S42} (h : Fine l) : ∀ x ∈ l, x.f0.length ≤ 9223372036854775807 := fun x hx => by have := h.2 x hx; omega
/-- The entries put together, and a code. -/
def sumF (l : List S42) : List S42 × Int := ((Sum.sumSet (l.map eE)).1.map dE, (Sum.sumSet (l.map eE)).2)
def nzE (x : S42) : Bool := decide (x.f1 ≠ 0)
def badE (x : S42) : Bool := !isW x.f1
def finE (s : List S42) : List S42 × Int := if s.any badE = true then ([], 8) else if 200 < (s.filter nzE).length then ([], 2) else (s.filter nzE, 0)
theorem finE_sum (s : List S42) : finE s = ((Sum.finish (s.map eE)).1.map dE, (Sum.finish (s.map eE)).2) := by
 have e1 : (s.map eE).any (fun e => !(decide (-1000000000000 ≤ e.2) && decide (e.2 ≤ 1000000000000))) = s.any badE := by
  rw [List.any_map]
  congr 1
  funext x
  show (!(decide (-1000000000000 ≤ x.f1) && decide (x.f1 ≤ 1000000000000))) = !isW x.f1
  unfold isW
  rw [Bool.decide_and]
 have e2 : (s.map eE).filter (fun e => decide (e.2 ≠ 0)) = (s.filter nzE).map eE := by
  rw [List.filter_map]; rfl
 unfold finE Sum.finish
 rw [e1, e2, List.length_map]
 by_cases c1 : s.any badE = true
 ·rw [if_pos c1, if_pos c1]; rfl
 ·rw [if_neg c1, if_neg c1]
  by_cases c2 : 200 < (s.filter nzE).length
  ·rw [if_pos c2, if_pos c2]; rfl
  ·rw [if_neg c2, if_neg c2, dE_eE]
theorem sumF_fin (l : List S42) : sumF l = finE (l.foldl putE []) := by
 unfold sumF
 rw [finE_sum, foldE_sum]
 rfl
theorem finE_len (s : List S42) : (finE s).1.length ≤ 200 := by
 unfold finE
 repeat' split
 ·simp
 ·simp
 ·simp only; omega
theorem foldE_rows {n : Nat} : ∀ (l s : List S42), (∀ x ∈ l, x.f0.length ≤ n) → (∀ x ∈ s, x.f0.length ≤ n) → ∀ x ∈ l.foldl putE s, x.f0.length ≤ n
 | [], _, _, hs => hs
 | y :: ys, s, hl, hs => by
  rw [List.foldl_cons]
  exact foldE_rows ys _ (fun x hx => hl x (List.mem_cons_of_mem _ hx)) (putE_rows s y hs (hl y (List.mem_cons_self ..)))
theorem sumF_fine {l : List S42} (h : Fine l) : Fine (sumF l).1 := by
 rw [sumF_fin]
 refine ⟨Nat.le_trans (finE_len _) (by omega), fun x hx => ?_⟩
 refine foldE_rows (n := 1048576) l [] h.2 (by simp) x ?_
 unfold finE at hx
 split at hx
 ·simp at hx
 ·split at hx
  ·simp at hx
  ·exact (List.mem_filter.mp hx).1
theorem l2Row_eq (l : List Int) (h : l.length ≤ 1048576) : spec_l2Row.f l = some l := by
 unfold spec_l2Row.f
 simp only [Option.bind_some, List.nil_append]
 rw [if_pos (by simp only [List.length_nil]; omega)]
theorem rdE_at {xs : List S42} {i : Nat} (h : i < xs.length) : rd_T42 xs (i : Int) = xs[i] := by simp [rd_T42, h]
theorem rdE_drop {xs : List S42} {i : Nat} (h : i < xs.length) : xs.drop i = rd_T42 xs (i : Int) :: xs.drop (i + 1) := by
 rw [rdE_at h]; exact List.drop_eq_getElem_cons h
theorem rdE_mem {xs : List S42} {i : Nat} (h : i < xs.length) : rd_T42 xs (i : Int) ∈ xs := by
 rw [rdE_at h]; exact List.getElem_mem h
def conv (x : S64) : S42 := ⟨x.f0, x.f1⟩
def szGo : Int → List S64 → Int
 | t, [] => t
 | t, x :: xs => if t - (x.f0.length : Int) < 0 then -1 else szGo (t - (x.f0.length : Int)) xs
def szE (t : Int) (l : List S64) : Int := if t - (l.length : Int) < 0 then -1 else szGo (t - (l.length : Int)) l
theorem szGo_le : ∀ (l : List S64) (t : Int), 0 ≤ szGo t l → szGo t l ≤ t ∧ ∀ x ∈ l, (x.f0.length : Int) ≤ t
 | [], t, h => ⟨Int.le_refl _, by simp⟩
 | x :: xs, t, h => by
  unfold szGo at h ⊢
  by_cases hc : t - (x.f0.length : Int) < 0
  ·rw [if_pos hc] at h; omega
  ·rw [if_neg hc] at h ⊢
   have ih := szGo_le xs _ h
   refine ⟨by omega, fun y hy => ?_⟩
   rcases List.mem_cons.1 hy with rfl | hy
   ·omega
   ·have := ih.2 y hy; omega
theorem szE_le {t : Int} {l : List S64} (h : 0 ≤ szE t l) : (l.length : Int) ≤ t ∧ szE t l ≤ t ∧ ∀ x ∈ l, (x.f0.length : Int) ≤ t := by
 unfold szE at h ⊢
 by_cases hc : t - (l.length : Int) < 0
 ·rw [if_pos hc] at h; omega
 ·rw [if_neg hc] at h ⊢
  have := szGo_le l _ h
  refine ⟨by omega, by omega, fun x hx => ?_⟩
  have := this.2 x hx
  omega
theorem l2Put_j1 (xs : List S42) (row : List Int) (w : Int) (hl : xs.length ≤ 1048576) (hx : ∀ x ∈ xs, x.f0.length ≤ 1048576) (hr : row.length ≤ 1048576) (i : Nat) (hi : i ≤ xs.length) (h2 : ∀ (hi : i < xs.length), ¬ cmpR xs[i].f0 row < 0) :
  Ev (fun k => spec_l2Put.j1 k xs (i : Int) row w) (xs.take i ++ putE (xs.drop i) ⟨row, w⟩) := by
 have len : (xs.take i).length = i := by rw [List.length_take]; omega
 have len2 : (xs.drop i).length = xs.length - i := List.length_drop
 refine Ev.up ?_
 simp only [spec_l2Put.j1, Option.bind_some, List.nil_append, l2Row_eq _ hr, Int.toNat_natCast]
 by_cases hlt : i < xs.length
 ·have hd : xs.drop i = xs[i] :: xs.drop (i + 1) := List.drop_eq_getElem_cons hlt
  have hm := hx _ (List.getElem_mem hlt)
  simp only [rdE_at hlt]
  refine Ev.pos (by omega) (Ev.pos (by omega) (Ev.then (specCmp_ev _ row (by omega)) ?_))
  by_cases h0 : cmpR xs[i].f0 row = 0
  ·refine Ev.pos h0 (Ev.const ?_)
   rw [hd, List.set_eq_take_append_cons_drop, if_pos hlt]
   unfold putE
   rw [if_neg (h2 hlt), if_pos h0]
  ·refine Ev.neg h0 (Ev.pos (by omega) (Ev.pos (by simp only [List.length_nil, len]; omega) (Ev.pos (by rw [len]; omega) (Ev.pos (by simp only [List.length_append, len, len2, List.length_cons, List.length_nil]; omega) (Ev.const ?_)))))
   rw [hd]
   unfold putE
   rw [if_neg (h2 hlt), if_neg h0, List.append_assoc]; rfl
 ·have hd : xs.drop i = [] := List.drop_eq_nil_of_le (by omega)
  refine Ev.neg (by omega) (Ev.pos (by omega) (Ev.pos (by omega) (Ev.pos (by simp only [List.length_nil, len]; omega) (Ev.pos (by rw [len]; omega) (Ev.pos (by simp only [List.length_append, len, len2, List.length_cons, List.length_nil]; omega) (Ev.const ?_))))))
  rw [hd]
  unfold putE
  rw [List.append_nil]
theorem l2Put_l0 (xs : List S42) (row : List Int) (w : Int) (hl : xs.length ≤ 1048576) (hx : ∀ x ∈ xs, x.f0.length ≤ 1048576) (hr : row.length ≤ 1048576) : ∀ (d i : Nat), i + d = xs.length → Ev (fun k => spec_l2Put.l0 k xs (i : Int) row w) (xs.take i ++ putE (xs.drop i) ⟨row, w⟩) := by
 intro d
 induction d with
 | zero =>
  intro i hd
  refine Ev.up ?_
  simp only [spec_l2Put.l0]
  exact Ev.neg (by omega) (l2Put_j1 xs row w hl hx hr i (by omega) (fun h => by omega))
 | succ d ih =>
  intro i hd
  have hlt : i < xs.length := by omega
  have hdr : xs.drop i = xs[i] :: xs.drop (i + 1) := List.drop_eq_getElem_cons hlt
  have hm := hx _ (List.getElem_mem hlt)
  refine Ev.up ?_
  simp only [spec_l2Put.l0, rdE_at hlt]
  refine Ev.pos (by omega) (Ev.pos (by omega) (Ev.then (specCmp_ev _ row (by omega)) ?_))
  by_cases h : cmpR xs[i].f0 row < 0
  ·refine Ev.pos h ?_
   rw [w64n (n := xs.length) (by omega) (by omega)]
   refine (ih (i + 1) (by omega)).eq ?_
   rw [hdr, List.take_add_one, List.getElem?_eq_getElem hlt, List.append_assoc]
   show _ = _ ++ putE (xs[i] :: _) _
   conv => rhs; unfold putE
   rw [if_pos h]; rfl
  ·exact Ev.neg h (l2Put_j1 xs row w hl hx hr i (by omega) (fun _ => h))
theorem l2Put_ev (xs : List S42) (row : List Int) (w : Int) (hl : xs.length ≤ 1048576) (hx : ∀ x ∈ xs, x.f0.length ≤ 1048576) (hr : row.length ≤ 1048576) : Ev (fun k => spec_l2Put.f k xs row w) (putE xs ⟨row, w⟩) := by
 unfold spec_l2Put.f
 exact l2Put_l0 xs row w hl hx hr xs.length 0 (by omega)
theorem l2Set_l1 (all : List S42) (hl : all.length ≤ 1048576) : ∀ (d i : Nat) (out : List S42), i + d = all.length → out.length ≤ i → Ev (fun k => spec_l2Set.l1 k all out (i : Int)) (if (all.drop i).any badE = true then ([], 8) else if 200 < (out ++ (all.drop i).filter nzE).length then ([], 2) else (out ++ (all.drop i).filter nzE, 0)) := by
 intro d
 induction d with
 | zero =>
  intro i out hd ho
  refine Ev.up ?_
  simp only [spec_l2Set.l1]
  refine Ev.neg (by omega) ?_
  rw [List.drop_eq_nil_of_le (by omega)]
  simp only [List.any_nil, Bool.false_eq_true, if_false, List.filter_nil, List.append_nil]
  by_cases h : 200 < out.length
  ·rw [if_pos h]; exact Ev.pos (by omega) (Ev.const rfl)
  ·rw [if_neg h]; exact Ev.neg (by omega) (Ev.const rfl)
 | succ d ih =>
  intro i out hd ho
  have hlt : i < all.length := by omega
  have hdr : all.drop i = all[i] :: all.drop (i + 1) := List.drop_eq_getElem_cons hlt
  refine Ev.up ?_
  simp only [spec_l2Set.l1, rdE_at hlt, specWeight_eq, Option.bind_some]
  rw [hdr, List.any_cons, List.filter_cons, w64n (n := all.length) (by omega) (by omega)]
  refine Ev.pos (by omega) (Ev.pos (by omega) ?_)
  by_cases hw : isW all[i].f1 = true
  ·have hb : badE all[i] = false := by unfold badE; rw [hw]; rfl
   rw [hb, Bool.false_or]
   refine Ev.pos hw ?_
   by_cases hz : all[i].f1 = 0
   ·have hn : nzE all[i] = false := by unfold nzE; simp [hz]
    simp only [hn, Bool.false_eq_true, if_false]
    exact Ev.pos hz (ih (i + 1) out (by omega) (by omega))
   ·have hn : nzE all[i] = true := by unfold nzE; simp [hz]
    rw [if_pos hn]
    refine Ev.neg hz (Ev.pos (by omega) ?_)
    refine (ih (i + 1) (out ++ [all[i]]) (by omega) (by rw [List.length_append]; simp only [List.length_cons, List.length_nil]; omega)).eq ?_
    rw [List.append_assoc]; rfl
  ·have hb : badE all[i] = true := by unfold badE; simp only [Bool.not_eq_true] at hw; rw [hw]; rfl
   rw [hb, Bool.true_or, if_pos rfl]
   exact Ev.neg hw (Ev.const rfl)
theorem l2Set_l0 (xs : List S42) (hx : Fine xs) : ∀ (d i : Nat) (acc : List S42), i + d = xs.length → acc.length ≤ i → (∀ x ∈ acc, x.f0.length ≤ 1048576) → Ev (fun k => spec_l2Set.l0 k xs acc (i : Int)) (finE ((xs.drop i).foldl putE acc)) := by
 have hl := hx.1
 intro d
 induction d with
 | zero =>
  intro i acc hd ha hr
  refine Ev.up ?_
  simp only [spec_l2Set.l0]
  refine Ev.neg (by omega) ?_
  rw [List.drop_eq_nil_of_le (by omega), List.foldl_nil]
  exact l2Set_l1 acc (by omega) acc.length 0 [] (by omega) (by simp)
 | succ d ih =>
  intro i acc hd ha hr
  have hlt : i < xs.length := by omega
  have hm := hx.2 _ (List.getElem_mem hlt)
  have hpl := putE_len acc xs[i]
  refine Ev.up ?_
  simp only [spec_l2Set.l0, rdE_at hlt]
  rw [List.drop_eq_getElem_cons hlt, List.foldl_cons, w64n (n := xs.length) (by omega) hx.n]
  refine Ev.pos (by omega) (Ev.pos (by omega) (Ev.then (l2Put_ev acc xs[i].f0 xs[i].f1 (by omega) hr hm) ?_))
  exact ih (i + 1) (putE acc xs[i]) (by omega) (by omega) (putE_rows acc xs[i] hr hm)
theorem l2Set_ev (xs : List S42) (hx : Fine xs) : Ev (fun k => spec_l2Set.f k xs) (sumF xs) := by
 unfold spec_l2Set.f
 rw [sumF_fin]
 exact l2Set_l0 xs hx xs.length 0 [] (by omega) (by simp) (by simp)
theorem summed_eq (xs : List S42) (hx : Fine xs) (hw : ∀ x ∈ xs, -9223372036854775808 ≤ x.f1 ∧ x.f1 ≤ 9223372036854775807) : impl_summed.f xs = some (sumF xs) := by
 unfold impl_summed.f
 rw [if_pos ⟨hx.1, fun x hx' => ⟨hx.2 x hx', hw x hx'⟩⟩]
 rfl
/-- What a mark writes: count by count. -/
def seqF (f : Int → Int) (a : Int) : Nat → List Int
 | 0 => []
 | n + 1 => f a :: seqF f (a + 1) n
theorem seqF_len (f : Int → Int) : ∀ (n : Nat) (a : Int), (seqF f a n).length = n
 | 0, _ => rfl
 | n + 1, a => by simp only [seqF, List.length_cons, seqF_len f n]
theorem rd_mid (pre rest : List Int) (x : Int) : rd (pre ++ x :: rest) (pre.length : Int) = x := by
 rw [rd_nat, List.getD_eq_getElem?_getD, List.getElem?_append_right (Nat.le_refl _)]
 simp
theorem markInt64S_l0 : ∀ (rest pre : List Int) (a : Int), 0 ≤ a → a + rest.length ≤ 4611686018427387904 → pre.length + rest.length ≤ 4611686018427387904 → Ev (fun k => laws_markInt64S.l0 k (pre ++ rest) a (pre.length : Int)) (a + rest.length, pre ++ seqF (fun x => x) a rest.length)
 | [], pre, a, h0, h1, h2 => by
  refine Ev.up ?_
  simp only [laws_markInt64S.l0]
  exact Ev.neg (by simp) (Ev.const (by simp [seqF]))
 | x :: rest, pre, a, h0, h1, h2 => by
  simp only [List.length_cons] at h1 h2
  refine Ev.up ?_
  simp only [laws_markInt64S.l0]
  refine Ev.pos (by simp only [List.length_append, List.length_cons]; omega) (Ev.pos (by omega) ?_)
  have el : wrap64 ((pre.length : Int) + 1) = ((pre ++ [a]).length : Int) := by rw [w64 (by omega) (by omega)]; simp
  have es : (pre ++ x :: rest).set (pre.length : Int).toNat (a) = (pre ++ [a]) ++ rest := by simp
  rw [es, el, w64 (x := a + 1) (by omega) (by omega)]
  refine (markInt64S_l0 rest (pre ++ [a]) (a + 1) (by omega) (by omega) (by rw [List.length_append]; simp only [List.length_cons, List.length_nil]; omega)).eq ?_
  refine Prod.ext ?_ ?_
  ·simp only [List.length_cons]; omega
  ·simp only [List.length_cons, seqF, List.append_assoc, List.cons_append, List.nil_append]
theorem markInt64S_ev (l : List Int) (a : Int) (h0 : 0 ≤ a) (h1 : a + l.length ≤ 4611686018427387904) : Ev (fun k => laws_markInt64S.f k l a) (a + l.length, seqF (fun x => x) a l.length) := by
 unfold laws_markInt64S.f
 exact markInt64S_l0 l [] a h0 h1 (by simp only [List.length_nil]; omega)
theorem heldInt64S_l0 : ∀ (n : Nat) (pre : List Int) (a : Int), 0 ≤ a → a + n ≤ 4611686018427387904 → pre.length + n ≤ 4611686018427387904 → Ev (fun k => laws_heldInt64S.l0 k (pre ++ seqF (fun x => x) a n) a (pre.length : Int)) (a + n)
 | 0, pre, a, h0, h1, h2 => by
  refine Ev.up ?_
  simp only [laws_heldInt64S.l0, seqF]
  exact Ev.neg (by simp) (Ev.const (by simp))
 | n + 1, pre, a, h0, h1, h2 => by
  refine Ev.up ?_
  simp only [laws_heldInt64S.l0, seqF]
  refine Ev.pos (by simp only [List.length_append, List.length_cons]; omega) (Ev.pos (by omega) (Ev.pos (rd_mid _ _ _) ?_))
  have el : wrap64 ((pre.length : Int) + 1) = ((pre ++ [a]).length : Int) := by rw [w64 (by omega) (by omega)]; simp
  have es : pre ++ (a) :: seqF (fun x => x) (a + 1) n = (pre ++ [a]) ++ seqF (fun x => x) (a + 1) n := by simp
  rw [es, el, w64 (x := a + 1) (by omega) (by omega)]
  exact (heldInt64S_l0 n (pre ++ [a]) (a + 1) (by omega) (by omega) (by rw [List.length_append]; simp only [List.length_cons, List.length_nil]; omega)).eq (by omega)
theorem heldInt64S_ev (n : Nat) (a : Int) (h0 : 0 ≤ a) (h1 : a + n ≤ 4611686018427387904) : Ev (fun k => laws_heldInt64S.f k (seqF (fun x => x) a n) a) (a + n) := by
 unfold laws_heldInt64S.f
 exact heldInt64S_l0 n [] a h0 h1 (by simp only [List.length_nil]; omega)
/-- Several answers, and one number of rounds for all. -/
theorem evs_both {α β : Type} {g : Nat → Option α} {h : Nat → Option β} {r : α} {s : β} (a : Ev g r) (b : Ev h s) : ∃ K, ∀ k, K ≤ k → g k = some r ∧ h k = some s := by
 obtain ⟨K, a⟩ := a
 obtain ⟨K', b⟩ := b
 exact ⟨max K K', fun k hk => ⟨a k (by omega), b k (by omega)⟩⟩
def Late (p : Nat → Prop) : Prop := ∃ K, ∀ k, K ≤ k → p k
theorem Late.of {α : Type} {g : Nat → Option α} {r : α} (h : Ev g r) : Late (fun k => g k = some r) := h
theorem Late.and {p q : Nat → Prop} (a : Late p) (b : Late q) : Late (fun k => p k ∧ q k) := by
 obtain ⟨K, a⟩ := a
 obtain ⟨K', b⟩ := b
 exact ⟨max K K', fun k hk => ⟨a k (by omega), b k (by omega)⟩⟩
theorem Late.ex {p : Nat → Prop} (a : Late p) : ∃ k, p k := by
 obtain ⟨K, a⟩ := a
 exact ⟨K, a K (Nat.le_refl _)⟩
def cellsE : List S42 → Nat
 | [] => 0
 | x :: xs => x.f0.length + 1 + cellsE xs
def seqE (a : Int) : List S42 → List S42
 | [] => []
 | x :: xs => ⟨seqF (fun x => x) a x.f0.length, a + x.f0.length⟩ :: seqE (a + x.f0.length + 1) xs
theorem cellsE_le : ∀ {l : List S42}, (∀ x ∈ l, x.f0.length ≤ 1048576) → cellsE l ≤ 1048577 * l.length
 | [], _ => Nat.le_refl _
 | x :: l, h => by
  have := h x (by simp)
  have := cellsE_le (l := l) (fun y hy => h y (by simp [hy]))
  simp only [cellsE, List.length_cons]; omega
theorem Fine.cells {l : List S42} (h : Fine l) : cellsE l ≤ 1099512676352 + 1048576 := by
 have := cellsE_le h.2
 have := h.1
 omega
theorem getD_midE (pre rest : List S42) (x z : S42) : (pre ++ x :: rest).getD ((pre.length : Int)).toNat z = x := by
 rw [Int.toNat_natCast, List.getD_eq_getElem?_getD, List.getElem?_append_right (Nat.le_refl _)]
 simp
theorem markE_l0 : ∀ (rest pre : List S42) (a : Int), 0 ≤ a → a + cellsE rest ≤ 4611686018427387904 → pre.length + rest.length ≤ 4611686018427387904 → Ev (fun k => laws_markEntryS.l0 k (pre ++ rest) a (pre.length : Int)) (a + cellsE rest, pre ++ seqE a rest)
 | [], pre, a, h0, h1, h2 => by
  refine Ev.up ?_
  simp only [laws_markEntryS.l0]
  exact Ev.neg (by simp) (Ev.const (by simp [seqE, cellsE]))
 | x :: rest, pre, a, h0, h1, h2 => by
  simp only [List.length_cons, cellsE] at h1 h2
  refine Ev.up ?_
  simp only [laws_markEntryS.l0]
  rw [getD_midE]
  refine Ev.pos (by simp only [List.length_append, List.length_cons]; omega) (Ev.pos (by omega) (Ev.then (markInt64S_ev x.f0 a h0 (by omega)) ?_))
  simp only
  have el : wrap64 ((pre.length : Int) + 1) = ((pre ++ [(⟨seqF (fun x => x) a x.f0.length, a + x.f0.length⟩ : S42)]).length : Int) := by rw [w64 (by omega) (by omega)]; simp
  have es : (pre ++ x :: rest).set (pre.length : Int).toNat (⟨seqF (fun x => x) a x.f0.length, a + x.f0.length⟩ : S42) = (pre ++ [⟨seqF (fun x => x) a x.f0.length, a + x.f0.length⟩]) ++ rest := by simp
  rw [es, el, w64 (x := a + x.f0.length + 1) (by omega) (by omega)]
  refine (markE_l0 rest (pre ++ [⟨seqF (fun x => x) a x.f0.length, a + x.f0.length⟩]) (a + x.f0.length + 1) (by omega) (by omega) (by rw [List.length_append]; simp only [List.length_cons, List.length_nil]; omega)).eq ?_
  refine Prod.ext ?_ ?_
  ·simp only [cellsE]; omega
  ·simp only [seqE, List.append_assoc, List.cons_append, List.nil_append]
theorem markE_ev (l : List S42) (a : Int) (h0 : 0 ≤ a) (h1 : a + cellsE l ≤ 4611686018427387904) (h2 : l.length ≤ 4611686018427387904) : Ev (fun k => laws_markEntryS.f k l a) (a + cellsE l, seqE a l) := by
 unfold laws_markEntryS.f
 exact markE_l0 l [] a h0 h1 (by simp only [List.length_nil]; omega)
theorem heldE_l0 : ∀ (rest pre : List S42) (a : Int), 0 ≤ a → a + cellsE rest ≤ 4611686018427387904 → pre.length + rest.length ≤ 4611686018427387904 → Ev (fun k => laws_heldEntryS.l0 k (pre ++ seqE a rest) a (pre.length : Int)) (a + cellsE rest)
 | [], pre, a, h0, h1, h2 => by
  refine Ev.up ?_
  simp only [laws_heldEntryS.l0, seqE]
  exact Ev.neg (by simp) (Ev.const (by simp [cellsE]))
 | x :: rest, pre, a, h0, h1, h2 => by
  simp only [List.length_cons, cellsE] at h1 h2
  refine Ev.up ?_
  simp only [laws_heldEntryS.l0, seqE, rd_T42, getD_midE]
  refine Ev.pos (by simp only [List.length_append, List.length_cons]; omega) (Ev.pos (by omega) (Ev.then (heldInt64S_ev x.f0.length a h0 (by omega)) (Ev.neg (by omega) (Ev.pos rfl ?_))))
  have el : wrap64 ((pre.length : Int) + 1) = ((pre ++ [(⟨seqF (fun x => x) a x.f0.length, a + x.f0.length⟩ : S42)]).length : Int) := by rw [w64 (by omega) (by omega)]; simp
  have es : pre ++ (⟨seqF (fun x => x) a x.f0.length, a + x.f0.length⟩ : S42) :: seqE (a + x.f0.length + 1) rest = (pre ++ [⟨seqF (fun x => x) a x.f0.length, a + x.f0.length⟩]) ++ seqE (a + x.f0.length + 1) rest := by simp
  rw [es, el, w64 (x := a + x.f0.length + 1) (by omega) (by omega)]
  refine (heldE_l0 rest (pre ++ [⟨seqF (fun x => x) a x.f0.length, a + x.f0.length⟩]) (a + x.f0.length + 1) (by omega) (by omega) (by rw [List.length_append]; simp only [List.length_cons, List.length_nil]; omega)).eq ?_
  simp only [cellsE]; omega
theorem heldE_ev (l : List S42) (a : Int) (h0 : 0 ≤ a) (h1 : a + cellsE l ≤ 4611686018427387904) (h2 : l.length ≤ 4611686018427387904) : Ev (fun k => laws_heldEntryS.f k (seqE a l) a) (a + cellsE l) := by
 unfold laws_heldEntryS.f
 exact heldE_l0 l [] a h0 h1 (by simp only [List.length_nil]; omega)
theorem heldSet_ev (x : Int) (l : List S42) (a : Int) (h0 : 0 ≤ a) (h1 : a + cellsE l ≤ 4611686018427387904) (h2 : l.length ≤ 4611686018427387904) : Ev (fun k => laws_heldSetResult.f k x (seqE a l) a) (a + cellsE l) := by
 unfold laws_heldSetResult.f
 exact Ev.then (heldE_ev l a h0 h1 h2) (Ev.neg (by omega) (Ev.const rfl))
theorem markSet_ev (x : Int) (l : List S42) (a : Int) (h0 : 0 ≤ a) (h1 : a + cellsE l ≤ 4611686018427387904) (h2 : l.length ≤ 4611686018427387904) : Ev (fun k => laws_markSetResult.f k x l a) (a + cellsE l, seqE a l) := markE_ev l a h0 h1 h2
theorem eqEntryS_l0 (xs : List S42) (hn : xs.length ≤ 9223372036854775807) (hr : ∀ x ∈ xs, x.f0.length ≤ 9223372036854775807) : ∀ (d i : Nat), i + d = xs.length → Ev (fun k => laws_eqEntryS.l0 k xs xs (i : Int)) true := by
 intro d
 induction d with
 | zero =>
  intro i hd
  refine Ev.up ?_
  simp only [laws_eqEntryS.l0]
  exact Ev.neg (by omega) (Ev.const rfl)
 | succ d ih =>
  intro i hd
  refine Ev.up ?_
  simp only [laws_eqEntryS.l0, laws_eqEntry.f]
  refine Ev.pos (by omega) (Ev.pos (by omega) (Ev.pos (by omega) ?_))
  have hm := rdE_mem (xs := xs) (i := i) (by omega)
  refine Ev.then (a := true) (Ev.then (eqInt64S_refl _ (hr _ hm)) (Ev.pos rfl (Ev.pos (by trivial) (Ev.const rfl)))) ?_
  refine Ev.pos rfl ?_
  rw [w64n (n := xs.length) (by omega) hn]
  exact ih (i + 1) (by omega)
theorem eqEntryS_refl (xs : List S42) (hn : xs.length ≤ 9223372036854775807) (hr : ∀ x ∈ xs, x.f0.length ≤ 9223372036854775807) : Ev (fun k => laws_eqEntryS.f k xs xs) true := by
 unfold laws_eqEntryS.f
 exact Ev.pos rfl (eqEntryS_l0 xs hn hr xs.length 0 (by omega))
theorem eqSetR_refl (x : Int) (l : List S42) (hx : Fine l) : Ev (fun k => laws_eqSetResult.f k x l x l) true := by
 unfold laws_eqSetResult.f
 exact Ev.pos rfl (Ev.then (eqEntryS_refl l hx.n hx.r) (Ev.pos rfl (Ev.const rfl)))
theorem l2Copy_l0 (xs : List S42) (hx : Fine xs) : ∀ (d i : Nat), i + d = xs.length → Ev (fun k => spec_l2Copy.l0 k xs (xs.take i) (i : Int)) xs := by
 intro d
 have hl := hx.1
 induction d with
 | zero =>
  intro i hd
  refine Ev.up ?_
  simp only [spec_l2Copy.l0]
  refine Ev.neg (by omega) (Ev.const ?_)
  rw [List.take_of_length_le (by omega)]
 | succ d ih =>
  intro i hd
  refine Ev.up ?_
  simp only [spec_l2Copy.l0]
  have hm := hx.2 _ (rdE_mem (xs := xs) (i := i) (by omega))
  refine Ev.pos (by omega) (Ev.pos (by omega) (Ev.call (l2Row_eq _ hm) (Ev.pos (by rw [List.length_take]; omega) ?_)))
  rw [w64n (n := xs.length) (by omega) hx.n]
  have e : xs.take i ++ [(⟨(rd_T42 xs (i : Int)).f0, (rd_T42 xs (i : Int)).f1⟩ : S42)] = xs.take (i + 1) := by
   rw [List.take_add_one, rdE_at (by omega), List.getElem?_eq_getElem (by omega)]
   rfl
  rw [e]
  exact ih (i + 1) (by omega)
theorem l2Copy_ev (xs : List S42) (hx : Fine xs) : Ev (fun k => spec_l2Copy.f k xs) xs := by
 unfold spec_l2Copy.f
 exact l2Copy_l0 xs hx xs.length 0 (by omega)
def setG : Option (List Int) → List S42 → Int
 | _, [] => 0
 | p, x :: xs => if rowF x.f0 = 0 then (if isW x.f1 = true ∧ x.f1 ≠ 0 then (match p with | some q => if cmpR q x.f0 ≥ 0 then 1 else setG (some x.f0) xs | none => setG (some x.f0) xs) else 3) else rowF x.f0
def setF (l : List S42) : Int := if 200 < l.length then 2 else setG none l
def prevE (xs : List S42) (i : Nat) : Option (List Int) := if i = 0 then none else some (rd_T42 xs ((i - 1 : Nat) : Int)).f0
theorem prevE_succ (xs : List S42) (i : Nat) : prevE xs (i + 1) = some (rd_T42 xs (i : Int)).f0 := by simp [prevE]
theorem w64p {i : Nat} (h : 0 < i) (hn : i ≤ 9223372036854775807) : wrap64 ((i : Int) - 1) = ((i - 1 : Nat) : Int) := by
 rw [w64 (by omega) (by omega)]; omega
def negE (x : S42) : S42 := ⟨x.f0, -x.f1⟩
def negF (l : List S42) : Int × List S42 := if setF l = 0 then (0, l.map negE) else (setF l, [])
theorem setG_ok : ∀ (p : Option (List Int)) (l : List S42), setG p l = 0 → ∀ x ∈ l, rowF x.f0 = 0 ∧ isW x.f1 = true ∧ x.f1 ≠ 0
 | _, [], _, _, h => by simp at h
 | p, x :: xs, h, y, hy => by
  simp only [setG] at h
  by_cases h1 : rowF x.f0 = 0
  ·rw [if_pos h1] at h
   by_cases h2 : isW x.f1 = true ∧ x.f1 ≠ 0
   ·rw [if_pos h2] at h
    have hr : setG (some x.f0) xs = 0 := by
     cases p with
     | none => exact h
     | some q =>
      simp only at h
      by_cases h3 : cmpR q x.f0 ≥ 0
      ·rw [if_pos h3] at h; omega
      ·rw [if_neg h3] at h; exact h
    rcases List.mem_cons.mp hy with rfl | hy
    ·exact ⟨h1, h2.1, h2.2⟩
    ·exact setG_ok _ xs hr y hy
   ·rw [if_neg h2] at h; omega
  ·rw [if_neg h1] at h; exact absurd h h1
theorem setF_ok {l : List S42} (h : setF l = 0) : l.length ≤ 200 ∧ ∀ x ∈ l, rowF x.f0 = 0 ∧ isW x.f1 = true ∧ x.f1 ≠ 0 := by
 unfold setF at h
 by_cases h1 : 200 < l.length
 ·rw [if_pos h1] at h; omega
 ·rw [if_neg h1] at h; exact ⟨by omega, setG_ok _ _ h⟩
theorem isW_in {x : Int} (h : isW x = true) : -1000000000000 ≤ x ∧ x ≤ 1000000000000 := by
 simpa [isW] using h
def cellB (c : Int) : List Int := [((c + 549755813888) / 4294967296) % 256, ((c + 549755813888) / 16777216) % 256, ((c + 549755813888) / 65536) % 256, ((c + 549755813888) / 256) % 256, (c + 549755813888) % 256]
def packR (r : List Int) : List Int := ((r.length : Int) % 256) :: r.flatMap cellB
def packG : List Int → List (List Int) → Int × List Int
 | out, [] => (0, out)
 | out, r :: rs => if rowF r = 0 then packG (out ++ packR r) rs else (rowF r, [])
def packV (rows : List (List Int)) : Int × List Int := if 60 < rows.length then (2, []) else packG [] rows
theorem rowF_zero {r : List Int} (h : rowF r = 0) : r.length ≤ 4 ∧ ∀ x ∈ r, -1000000000 ≤ x ∧ x ≤ 1000000000 := by
 unfold rowF at h
 by_cases h1 : 4 < r.length
 ·rw [if_pos h1] at h; omega
 ·rw [if_neg h1] at h
  by_cases h2 : r.all inC = true
  ·refine ⟨by omega, fun x hx => ?_⟩
   have := List.all_eq_true.mp h2 x hx
   simpa [inC] using this
  ·rw [if_neg h2] at h; omega
theorem cells_len : ∀ r : List Int, (r.flatMap cellB).length = 5 * r.length
 | [] => rfl
 | x :: r => by rw [List.flatMap_cons, List.length_append, cells_len r]; simp only [cellB, List.length_cons, List.length_nil]; omega
theorem packR_len (r : List Int) : (packR r).length = 1 + 5 * r.length := by simp only [packR, List.length_cons, cells_len]; omega
theorem rd2_drop {xs : List (List Int)} {i : Nat} (h : i < xs.length) : xs.drop i = rd_L1 xs (i : Int) :: xs.drop (i + 1) := by
 rw [List.drop_eq_getElem_cons h]
 simp [rd_L1, List.getD_eq_getElem?_getD, List.getElem?_eq_getElem h]
theorem rd2_mem {xs : List (List Int)} {i : Nat} (h : i < xs.length) : rd_L1 xs (i : Int) ∈ xs := by
 simp only [rd_L1, Int.toNat_natCast, List.getD_eq_getElem?_getD, List.getElem?_eq_getElem h, Option.getD_some]
 exact List.getElem_mem h
theorem rd_mem {xs : List Int} {i : Nat} (h : i < xs.length) : rd xs (i : Int) ∈ xs := by
 rw [rd_at h]; exact List.getElem_mem h
theorem rdLE_at {xs : List S64} {i : Nat} (h : i < xs.length) : rd_T64 xs (i : Int) = xs[i] := by simp [rd_T64, h]
theorem rdLE_drop {xs : List S64} {i : Nat} (h : i < xs.length) : xs.drop i = rd_T64 xs (i : Int) :: xs.drop (i + 1) := by
 rw [rdLE_at h]; exact List.drop_eq_getElem_cons h
theorem rdLE_mem {xs : List S64} {i : Nat} (h : i < xs.length) : rd_T64 xs (i : Int) ∈ xs := by
 rw [rdLE_at h]; exact List.getElem_mem h
theorem szInt_eq {n : Nat} {l : List Int} {t : Int} (h0 : 0 ≤ t) (h1 : t ≤ 1048576) (hn : l.length = n) (hl : n ≤ 9223372036854775807) : laws_szInt64S.f l t = some (if t - (n : Int) < 0 then -1 else t - (n : Int)) := by
 unfold laws_szInt64S.f
 rw [hn, w64 (by omega) (by omega)]
 by_cases h : t - (n : Int) < 0
 ·rw [if_pos h, if_pos h]
 ·rw [if_neg h, if_neg h]
theorem szEntry_eq {l : List Int} {w t : Int} (h0 : 0 ≤ t) (h1 : t ≤ 1048576) (hl : l.length ≤ 9223372036854775807) : laws_szEntry.f l w t = some (if t - (l.length : Int) < 0 then -1 else t - (l.length : Int)) := by
 unfold laws_szEntry.f
 rw [szInt_eq h0 h1 rfl hl]
 simp only [Option.bind_some]
 by_cases h : t - (l.length : Int) < 0
 ·rw [if_pos h, if_pos (by omega)]
 ·rw [if_neg h, if_neg h]
theorem szEntryS_l0 (xs : List S64) (hn : xs.length ≤ 9223372036854775807) (hr : ∀ x ∈ xs, x.f0.length ≤ 9223372036854775807) : ∀ (d i : Nat) (t : Int), i + d = xs.length → 0 ≤ t → t ≤ 1048576 → Ev (fun k => laws_szEntryS.l0 k xs t (i : Int)) (szGo t (xs.drop i)) := by
 intro d
 induction d with
 | zero =>
  intro i t hd h0 h1
  refine Ev.up ?_
  simp only [laws_szEntryS.l0]
  refine Ev.neg (by omega) (Ev.const ?_)
  rw [List.drop_eq_nil_of_le (by omega)]; rfl
 | succ d ih =>
  intro i t hd h0 h1
  refine Ev.up ?_
  simp only [laws_szEntryS.l0]
  refine Ev.pos (by omega) (Ev.pos (by omega) ?_)
  rw [rdLE_drop (xs := xs) (i := i) (by omega), w64n (n := xs.length) (by omega) hn, szEntry_eq h0 h1 (hr _ (rdLE_mem (by omega)))]
  simp only [Option.bind_some, szGo]
  by_cases h : t - ((rd_T64 xs (i : Int)).f0.length : Int) < 0
  ·rw [if_pos h]; exact Ev.pos (by omega) (Ev.const (by rw [if_pos h]))
  ·rw [if_neg h, if_neg h]
   exact Ev.neg h (ih (i + 1) _ (by omega) (by omega) (by omega))
theorem szEntryS_ev (xs : List S64) (hn : xs.length ≤ 9223372036854775807) (hr : ∀ x ∈ xs, x.f0.length ≤ 9223372036854775807) {t : Int} (h0 : 0 ≤ t) (h1 : t ≤ 1048576) : Ev (fun k => laws_szEntryS.f k xs t) (szE t xs) := by
 unfold laws_szEntryS.f szE
 rw [w64 (by omega) (by omega)]
 by_cases h : t - (xs.length : Int) < 0
 ·rw [if_pos h]; exact Ev.pos h (Ev.const rfl)
 ·rw [if_neg h]; exact Ev.neg h (szEntryS_l0 xs hn hr xs.length 0 _ (by omega) (by omega) (by omega))
theorem toEntryS_l0 (xs : List S64) (hn : xs.length ≤ 9223372036854775807) (hr : ∀ x ∈ xs, x.f0.length ≤ 1048576) : ∀ (d i : Nat) (ys : List S42), i + d = xs.length → ys.length = xs.length → (∀ j, j < i → ys[j]? = (xs.map conv)[j]?) → Ev (fun k => laws_toEntryS.l0 k xs ys (i : Int)) (xs.map conv) := by
 intro d
 induction d with
 | zero =>
  intro i ys hd hl he
  refine Ev.up ?_
  simp only [laws_toEntryS.l0]
  refine Ev.neg (by omega) (Ev.const ?_)
  congr 1
  apply List.ext_getElem?
  intro j
  by_cases hj : j < i
  ·exact he j hj
  ·rw [List.getElem?_eq_none (by omega), List.getElem?_eq_none (by rw [List.length_map]; omega)]
 | succ d ih =>
  intro i ys hd hl he
  refine Ev.up ?_
  simp only [laws_toEntryS.l0, laws_toEntry.f]
  refine Ev.pos (by omega) (Ev.pos (by omega) ?_)
  have hm := rdLE_mem (xs := xs) (i := i) (by omega)
  refine Ev.then (a := ((rd_T64 xs (i : Int)).f0, (rd_T64 xs (i : Int)).f1)) (Ev.then (toInt64S_ev _ (hr _ hm)) (Ev.const rfl)) ?_
  refine Ev.pos (by omega) ?_
  rw [w64n (n := xs.length) (by omega) hn, Int.toNat_natCast]
  refine ih (i + 1) _ (by omega) (by simpa using hl) (fun j hj => ?_)
  rw [List.getElem?_set]
  by_cases e : i = j
  ·subst e
   rw [if_pos rfl, if_pos (by omega), List.getElem?_map, List.getElem?_eq_getElem (by omega), rdLE_at (by omega)]
   rfl
  ·rw [if_neg e]
   exact he j (by omega)
theorem toEntryS_ev (xs : List S64) (hn : xs.length ≤ 1048576) (hr : ∀ x ∈ xs, x.f0.length ≤ 1048576) : Ev (fun k => laws_toEntryS.f k xs) (xs.map conv) := by
 unfold laws_toEntryS.f
 refine Ev.pos (by omega) (Ev.pos (by omega) ?_)
 exact toEntryS_l0 xs (by omega) hr xs.length 0 _ (by omega) (by simp) (fun j hj => by omega)
/-- What a law over one list of entries begins with: too much, or what is laid is as it came in. -/
theorem input_of {l : List S64} (hl : (fun l : List S64 => l.length ≤ maxLen ∧ ∀ y ∈ l, (fun x : S64 => (fun l : List Int => l.length ≤ maxLen ∧ ∀ y ∈ l, (fun x : Int => (Lit.int .i64 x).wf = true) y) x.f0 ∧ (fun x : Int => (Lit.int .i64 x).wf = true) x.f1) y) l) {t : Int} (h0 : 0 ≤ t) (h1 : t ≤ 1048576) :
  Ev (fun k => laws_szEntryS.f k l t) (szE t l) ∧ (¬ szE t l < 0 → szE t l ≤ 1048576 ∧ 0 ≤ szE t l ∧ Fine (l.map conv) ∧ Ev (fun k => laws_toEntryS.f k l) (l.map conv)) := by
 have hm : ∀ n : Nat, n ≤ maxLen → n ≤ 9223372036854775807 := fun n h => by simp only [maxLen] at h; omega
 refine ⟨szEntryS_ev l (hm _ hl.1) (fun x hx => hm _ (hl.2 x hx).1.1) h0 h1, fun h => ?_⟩
 have hb := szE_le (t := t) (l := l) (by omega)
 have hr : ∀ x ∈ l, x.f0.length ≤ 1048576 := fun x hx => by have := hb.2.2 x hx; omega
 refine ⟨by omega, by omega, ⟨by rw [List.length_map]; omega, fun x hx => ?_⟩, toEntryS_ev l (by omega) hr⟩
 obtain ⟨y, hy, rfl⟩ := List.mem_map.1 hx
 exact hr y hy
theorem cmpR_anti : ∀ xs ys : List Int, cmpR xs ys = - cmpR ys xs
 | [], [] => rfl
 | [], _ :: _ => rfl
 | _ :: _, [] => rfl
 | a :: xs, b :: ys => by
  simp only [cmpR]
  have ih := cmpR_anti xs ys
  by_cases h1 : a < b
  ·rw [if_pos h1, if_neg (by omega), if_pos h1]
  ·by_cases h2 : b < a
   ·rw [if_neg h1, if_pos h2, if_pos h2]; rfl
   ·rw [if_neg h1, if_neg h2, if_neg h2, if_neg h1]; exact ih
theorem specSet_l0 (xs : List S42) (hx : Fine xs) : ∀ (d i : Nat), i + d = xs.length → Ev (fun k => spec_SetFault.l0 k xs (i : Int)) (setG (prevE xs i) (xs.drop i)) := by
 have hn := hx.n
 intro d
 induction d with
 | zero =>
  intro i hd
  refine Ev.up ?_
  simp only [spec_SetFault.l0]
  refine Ev.neg (by omega) (Ev.const ?_)
  rw [List.drop_eq_nil_of_le (by omega)]; simp [setG]
 | succ d ih =>
  intro i hd
  have hm := hx.r _ (rdE_mem (xs := xs) (i := i) (by omega))
  have hj : ∀ b : Bool, b = ! decide (isW (rd_T42 xs (i : Int)).f1 = true ∧ (rd_T42 xs (i : Int)).f1 ≠ 0) → rowF (rd_T42 xs (i : Int)).f0 = 0 → Ev (fun k => spec_SetFault.j1 k xs (i : Int) b) (setG (prevE xs i) (xs.drop i)) := by
   intro b hb hrow
   rw [rdE_drop (xs := xs) (i := i) (by omega)]
   simp only [setG]
   rw [if_pos hrow]
   refine Ev.up ?_
   simp only [spec_SetFault.j1]
   by_cases hw : isW (rd_T42 xs (i : Int)).f1 = true ∧ (rd_T42 xs (i : Int)).f1 ≠ 0
   ·rw [if_pos hw]
    refine Ev.neg (by rw [hb]; simp [hw]) ?_
    by_cases h0 : i = 0
    ·subst h0
     refine Ev.neg (by omega) ?_
     rw [w64n (n := xs.length) (by omega) hn]
     have := ih 1 (by omega)
     rw [show prevE xs 1 = some (rd_T42 xs ((0 : Nat) : Int)).f0 from prevE_succ xs 0] at this
     simpa [prevE] using this
    ·refine Ev.pos (by omega) (Ev.pos (by omega) (Ev.pos (by omega) ?_))
     rw [w64p (by omega) (by omega)]
     refine Ev.pos (by omega) (Ev.pos (by omega) ?_)
     refine Ev.then (specCmp_ev _ _ hm) ?_
     rw [w64n (n := xs.length) (by omega) hn, show prevE xs i = some (rd_T42 xs ((i - 1 : Nat) : Int)).f0 from by simp [prevE, h0]]
     dsimp only
     rw [cmpR_anti (rd_T42 xs ((i - 1 : Nat) : Int)).f0]
     refine Ev.ite (fun hc => Ev.const ?_) (fun hc => ?_)
     ·rw [if_pos (by omega)]
     ·rw [if_neg (by omega), ← prevE_succ]
      exact ih (i + 1) (by omega)
   ·rw [if_neg hw]
    exact Ev.pos (by rw [hb]; simp only [hw, decide_false]; rfl) (Ev.const rfl)
  refine Ev.up ?_
  simp only [spec_SetFault.l0]
  refine Ev.pos (by omega) (Ev.pos (by omega) (Ev.then (specRow_ev _ hm) ?_))
  refine Ev.ite (fun hrow => ?_) (fun hrow => Ev.const ?_)
  ·rw [specWeight_eq]
   simp only [Option.bind_some]
   refine Ev.ite (fun hw => hj _ ?_ hrow) (fun hw => hj _ ?_ hrow)
   ·by_cases hz : (rd_T42 xs (i : Int)).f1 = 0 <;> simp [hw, hz]
   ·simp [hw]
  ·rw [rdE_drop (xs := xs) (i := i) (by omega)]
   simp only [setG]
   rw [if_neg hrow]
theorem specSet_ev (xs : List S42) (hx : Fine xs) : Ev (fun k => spec_SetFault.f k xs) (setF xs) := by
 unfold spec_SetFault.f setF
 refine Ev.ite (fun h => Ev.const ?_) (fun h => ?_)
 ·rw [if_pos (by omega)]
 ·rw [if_neg (by omega)]
  exact (specSet_l0 xs hx xs.length 0 (by omega)).eq (by simp [prevE])
theorem implSet_l0 (xs : List S42) (hx : Fine xs) : ∀ (d i : Nat), i + d = xs.length → Ev (fun k => impl_SetFault.l0 k xs xs (xs.length : Int) (i : Int)) (setG (prevE xs i) (xs.drop i)) := by
 have hn := hx.n
 intro d
 induction d with
 | zero =>
  intro i hd
  refine Ev.up ?_
  simp only [impl_SetFault.l0]
  refine Ev.neg (by omega) (Ev.const ?_)
  rw [List.drop_eq_nil_of_le (by omega)]; simp [setG]
 | succ d ih =>
  intro i hd
  have hm := hx.r _ (rdE_mem (xs := xs) (i := i) (by omega))
  have hj : ∀ b : Bool, b = ! decide (isW (rd_T42 xs (i : Int)).f1 = true ∧ (rd_T42 xs (i : Int)).f1 ≠ 0) → rowF (rd_T42 xs (i : Int)).f0 = 0 → Ev (fun k => impl_SetFault.j1 k xs (i : Int) xs (xs.length : Int) (i : Int) b (rd_T42 xs (i : Int)).f0 (rd_T42 xs (i : Int)).f1) (setG (prevE xs i) (xs.drop i)) := by
   intro b hb hrow
   rw [rdE_drop (xs := xs) (i := i) (by omega)]
   simp only [setG]
   rw [if_pos hrow]
   refine Ev.up ?_
   simp only [impl_SetFault.j1]
   by_cases hw : isW (rd_T42 xs (i : Int)).f1 = true ∧ (rd_T42 xs (i : Int)).f1 ≠ 0
   ·rw [if_pos hw]
    refine Ev.neg (by rw [hb]; simp [hw]) ?_
    by_cases h0 : i = 0
    ·subst h0
     refine Ev.neg (by omega) ?_
     rw [w64n (n := xs.length) (by omega) hn]
     have := ih 1 (by omega)
     rw [show prevE xs 1 = some (rd_T42 xs ((0 : Nat) : Int)).f0 from prevE_succ xs 0] at this
     simpa [prevE] using this
    ·refine Ev.pos (by omega) ?_
     rw [w64p (by omega) (by omega)]
     have hp := hx.r _ (rdE_mem (xs := xs) (i := i - 1) (by omega))
     refine Ev.pos (by omega) (Ev.pos (by omega) ?_)
     refine Ev.then (implCmp_ev _ _ hp) ?_
     rw [w64n (n := xs.length) (by omega) hn, show prevE xs i = some (rd_T42 xs ((i - 1 : Nat) : Int)).f0 from by simp [prevE, h0]]
     dsimp only
     refine Ev.ite (fun hc => Ev.const ?_) (fun hc => ?_)
     ·rw [if_pos (by omega)]
     ·rw [if_neg (by omega), ← prevE_succ]
      exact ih (i + 1) (by omega)
   ·rw [if_neg hw]
    exact Ev.pos (by rw [hb]; simp only [hw, decide_false]; rfl) (Ev.const rfl)
  refine Ev.up ?_
  simp only [impl_SetFault.l0]
  refine Ev.pos (by omega) (Ev.pos (by omega) (Ev.pos (by omega) (Ev.then (implRow_ev _ hm) ?_)))
  refine Ev.ite (fun hrow => ?_) (fun hrow => Ev.const ?_)
  ·rw [implWeight_eq]
   simp only [Option.bind_some]
   refine Ev.ite (fun hw => hj _ ?_ hrow) (fun hw => hj _ ?_ hrow)
   ·by_cases hz : (rd_T42 xs (i : Int)).f1 = 0 <;> simp [hw, hz]
   ·simp [hw]
  ·rw [rdE_drop (xs := xs) (i := i) (by omega)]
   simp only [setG]
   rw [if_neg hrow]
theorem implSet_ev (xs : List S42) (hx : Fine xs) : Ev (fun k => impl_SetFault.f k xs) (setF xs) := by
 unfold impl_SetFault.f setF
 refine Ev.ite (fun h => Ev.const ?_) (fun h => ?_)
 ·rw [if_pos (by omega)]
 ·rw [if_neg (by omega)]
  exact (implSet_l0 xs hx xs.length 0 (by omega)).eq (by simp [prevE])
def addF (a b : List S42) : Int × List S42 := if setF a = 0 then (if setF b = 0 then ((sumF (a ++ b)).2, (sumF (a ++ b)).1) else (setF b, [])) else (setF a, [])
theorem fine_app {a b : List S42} (ha : setF a = 0) (hb : setF b = 0) : Fine (a ++ b) := by
 obtain ⟨n1, h1⟩ := setF_ok ha
 obtain ⟨n2, h2⟩ := setF_ok hb
 refine ⟨by rw [List.length_append]; omega, fun x hx => ?_⟩
 rcases List.mem_append.mp hx with h | h
 ·have := (rowF_zero (h1 x h).1).1; omega
 ·have := (rowF_zero (h2 x h).1).1; omega
theorem addF_fine (a b : List S42) : Fine (addF a b).2 := by
 have nil : Fine ([] : List S42) := ⟨by simp, by simp⟩
 unfold addF
 by_cases h1 : setF a = 0
 ·rw [if_pos h1]
  by_cases h2 : setF b = 0
  ·rw [if_pos h2]; exact sumF_fine (fine_app h1 h2)
  ·rw [if_neg h2]; exact nil
 ·rw [if_neg h1]; exact nil
theorem specAddS_ev (a b : List S42) (ha : Fine a) (hb : Fine b) : Ev (fun k => spec_AddSets.f k a b) (addF a b) := by
 unfold spec_AddSets.f addF
 refine Ev.then (specSet_ev a ha) (Ev.ite2 (fun h1 => Ev.then (specSet_ev b hb) (Ev.ite2 (fun h2 => ?_) (fun _ => Ev.const rfl))) (fun _ => Ev.const rfl))
 have hf := fine_app h1 h2
 have hl := hf.1
 rw [List.length_append] at hl
 have L : Ev (fun k => spec_l2Add.f k a b) (sumF (a ++ b)) := by
  unfold spec_l2Add.f
  exact Ev.then (l2Copy_ev a ha) (Ev.pos (by omega) (Ev.then (l2Set_ev _ hf) (Ev.const rfl)))
 exact Ev.then L (Ev.const rfl)
theorem setsFault_ev (a b : List S42) (ha : Fine a) (hb : Fine b) : Ev (fun k => impl_setsFault.f k [a, b]) (if setF a = 0 then setF b else setF a) := by
 have w1 : wrap64 (0 + 1) = 1 := w64 (by omega) (by omega)
 have w2 : wrap64 (1 + 1) = 2 := w64 (by omega) (by omega)
 unfold impl_setsFault.f
 refine Ev.up ?_
 simp only [impl_setsFault.l0, List.length_cons, List.length_nil]
 refine Ev.pos (by omega) (Ev.pos (by omega) (Ev.pos (by omega) (Ev.then (implSet_ev a ha) (Ev.ite2 (fun h1 => ?_) (fun _ => Ev.const rfl)))))
 rw [w1]
 refine Ev.up ?_
 simp only [impl_setsFault.l0, List.length_cons, List.length_nil]
 refine Ev.pos (by omega) (Ev.pos (by omega) (Ev.pos (by omega) (Ev.then (implSet_ev b hb) (Ev.ite (fun h2 => ?_) (fun _ => Ev.const rfl)))))
 rw [w2, h2]
 refine Ev.up ?_
 simp only [impl_setsFault.l0, List.length_cons, List.length_nil]
 exact Ev.neg (by omega) (Ev.const rfl)
theorem setF_in64 {l : List S42} (h : setF l = 0) : ∀ x ∈ l, -9223372036854775808 ≤ x.f1 ∧ x.f1 ≤ 9223372036854775807 := fun x hx => by
 have := isW_in ((setF_ok h).2 x hx).2.1
 omega
theorem implAddS_ev (a b : List S42) (ha : Fine a) (hb : Fine b) : Ev (fun k => impl_AddSets.f k a b) (addF a b) := by
 unfold impl_AddSets.f addF
 refine Ev.then (setsFault_ev a b ha hb) ?_
 by_cases h1 : setF a = 0
 ·by_cases h2 : setF b = 0
  ·have hf := fine_app h1 h2
   have hl := hf.1
   rw [List.length_append] at hl
   have hw : ∀ x ∈ a ++ b, -9223372036854775808 ≤ x.f1 ∧ x.f1 ≤ 9223372036854775807 := fun x hx => by
    rcases List.mem_append.mp hx with h | h
    ·exact setF_in64 h1 x h
    ·exact setF_in64 h2 x h
   simp only [if_pos h1, if_pos h2, if_pos (show a.length + b.length < 4194304 by omega)]
   exact Ev.call (summed_eq _ hf hw) (Ev.const rfl)
  ·simp only [if_pos h1, if_neg h2]
   exact Ev.const rfl
 ·simp only [if_neg h1]
  exact Ev.const rfl
theorem FnExactAddSets : laws_FnExactAddSets.Pure := by
 intro l l' hl _ hl' _
 unfold laws_FnExactAddSets.ok
 obtain ⟨hz, hin⟩ := input_of hl (t := 1048576) (by omega) (by omega)
 by_cases hc : szE 1048576 l < 0
 ·obtain ⟨k, e⟩ := (Late.of hz).ex
  exact ⟨k, .inl ⟨_, e, hc⟩⟩
 obtain ⟨h1, h0, hx, ht⟩ := hin hc
 obtain ⟨hz', hin'⟩ := input_of hl' (t := szE 1048576 l) h0 h1
 by_cases hc' : szE (szE 1048576 l) l' < 0
 ·obtain ⟨k, e, e'⟩ := ((Late.of hz).and (Late.of hz')).ex
  exact ⟨k, .inr (.inl ⟨_, _, e, e', by omega, hc'⟩)⟩
 obtain ⟨_, h0', hx', ht'⟩ := hin' hc'
 have hr := addF_fine (l.map conv) (l'.map conv)
 have c1 := hx.cells
 have c1' := hx'.cells
 have c2 := hr.cells
 have n1 := hx.1
 have n1' := hx'.1
 have n2 := hr.1
 obtain ⟨k, e0, e1, e2, e3, e4, e5, e6, e7, e8, e9, e10, e11, e12⟩ := ((Late.of hz).and ((Late.of hz').and ((Late.of ht).and ((Late.of ht').and ((Late.of (specAddS_ev _ _ hx hx')).and ((Late.of (implAddS_ev _ _ hx hx')).and ((Late.of (eqSetR_refl (addF (l.map conv) (l'.map conv)).1 _ hr)).and ((Late.of (eqEntryS_refl _ hx.n hx.r)).and ((Late.of (eqEntryS_refl _ hx'.n hx'.r)).and ((Late.of (markE_ev (l.map conv) 1 (by omega) (by omega) (by omega))).and ((Late.of (markE_ev (l'.map conv) (1 + cellsE (l.map conv)) (by omega) (by omega) (by omega))).and ((Late.of (markSet_ev (addF (l.map conv) (l'.map conv)).1 (addF (l.map conv) (l'.map conv)).2 1 (by omega) (by omega) (by omega))).and (Late.of (heldSet_ev (addF (l.map conv) (l'.map conv)).1 (addF (l.map conv) (l'.map conv)).2 1 (by omega) (by omega) (by omega))))))))))))))).ex
 exact ⟨k, .inr (.inr ⟨_, _, _, _, _, _, _, _, _, _, _, _, e0, e1, e2, e3, e4, e5, e6, e7, e8, e9, e10, e11, e12, by omega, by omega, by omega, by omega, by omega⟩)⟩

end Go.Proofs.Ythgmicingbjemaa.Pure
