/- The law FnExactPackRows answers true for every list of rows: program and reference pack them into the same bytes, and what is handed out is shared with nothing. -/
import Derived.Test.YtljfhfkmbgkpoaaKit
import Derived.Test.YtljfhfkmbgkpoaaVFnExactPackRows
namespace Go.Proofs.Ytljfhfkmbgkpoaa.Pure
open Go.RowKit Go.Proofs.Ytljfhfkmbgkpoaa.PFnExactPackRows Go.Proofs.YtljfhfkmbgkpoaaW.PrintWords Go.Proofs.YtljfhfkmbgkpoaaW.PrintLast Go.Proofs.Ytljfhfkmbgkpoaa
set_option linter.unusedSimpArgs false
set_option linter.unusedVariables false

theorem w64n {i n : Nat} (h : i < n) (hn : n ≤ 9223372036854775807) : wrap64 ((i : Int) + 1) = ((i + 1 : Nat) : Int) := by
  rw [Kit.w64 (by omega) (by omega)]; rfl
theorem rd_drop {xs : List Int} {i : Nat} (h : i < xs.length) : xs.drop i = rd xs (i : Int) :: xs.drop (i + 1) := by
  rw [Kit.rd_at h]; exact List.drop_eq_getElem_cons h
theorem toInt64S_l0 (xs : List Int) (hn : xs.length ≤ 9223372036854775807) : ∀ (d i : Nat) (ys : List Int), i + d = xs.length → ys.length = xs.length → (∀ j, j < i → ys[j]? = xs[j]?) → Ev (fun k => laws_toInt64S.l0 k xs ys (i : Int)) xs := by
  intro d
  induction d with
  | zero =>
    intro i ys hd hl he
    refine Kit.Ev.up ?_
    simp only [laws_toInt64S.l0]
    refine Kit.Ev.neg (by omega) (Kit.Ev.const ?_)
    congr 1
    apply List.ext_getElem?
    intro j
    by_cases hj : j < i
    · exact he j hj
    · rw [List.getElem?_eq_none (by omega), List.getElem?_eq_none (by omega)]
  | succ d ih =>
    intro i ys hd hl he
    refine Kit.Ev.up ?_
    simp only [laws_toInt64S.l0]
    refine Kit.Ev.pos (by omega) (Kit.Ev.pos (by omega) (Kit.Ev.pos (by omega) ?_))
    rw [w64n (n := xs.length) (by omega) hn, Int.toNat_natCast]
    refine ih (i + 1) _ (by omega) (by simpa using hl) (fun j hj => ?_)
    rw [List.getElem?_set]
    by_cases e : i = j
    · subst e
      rw [if_pos rfl, if_pos (by omega), Kit.rd_at (by omega), List.getElem?_eq_getElem (by omega)]
    · rw [if_neg e]
      exact he j (by omega)
theorem toInt64S_ev (xs : List Int) (hn : xs.length ≤ 1048576) : Ev (fun k => laws_toInt64S.f k xs) xs := by
  unfold laws_toInt64S.f
  refine Kit.Ev.pos (by omega) (Kit.Ev.pos (by omega) ?_)
  exact toInt64S_l0 xs (by omega) xs.length 0 _ (by omega) (by simp) (fun j hj => by omega)
theorem eqInt64S_l0 (xs ys : List Int) (hn : xs.length ≤ 9223372036854775807) (hl : xs.length = ys.length) : ∀ (d i : Nat), i + d = xs.length → Ev (fun k => laws_eqInt64S.l0 k xs ys (i : Int)) (decide (xs.drop i = ys.drop i)) := by
  intro d
  induction d with
  | zero =>
    intro i hd
    refine Kit.Ev.up ?_
    simp only [laws_eqInt64S.l0]
    refine Kit.Ev.neg (by omega) (Kit.Ev.const ?_)
    rw [List.drop_eq_nil_of_le (by omega), List.drop_eq_nil_of_le (by omega)]; simp
  | succ d ih =>
    intro i hd
    refine Kit.Ev.up ?_
    simp only [laws_eqInt64S.l0]
    refine Kit.Ev.pos (by omega) (Kit.Ev.pos (by omega) (Kit.Ev.pos (by omega) ?_))
    rw [rd_drop (xs := xs) (i := i) (by omega), rd_drop (xs := ys) (i := i) (by omega), w64n (n := xs.length) (by omega) hn]
    refine Kit.Ev.ite (fun h => ?_) (fun h => Kit.Ev.const ?_)
    · exact (ih (i + 1) (by omega)).eq (by rw [h]; simp)
    · simp [h]
theorem eqInt64S_ev (xs ys : List Int) (hn : xs.length ≤ 9223372036854775807) : Ev (fun k => laws_eqInt64S.f k xs ys) (decide (xs = ys)) := by
  unfold laws_eqInt64S.f
  refine Kit.Ev.ite (fun h => ?_) (fun h => Kit.Ev.const ?_)
  · exact (eqInt64S_l0 xs ys hn (by omega) xs.length 0 (by omega)).eq (by simp)
  · have : xs ≠ ys := fun e => h (by rw [e])
    simp [this]
theorem eqInt64S_refl (xs : List Int) (hn : xs.length ≤ 9223372036854775807) : Ev (fun k => laws_eqInt64S.f k xs xs) true := (eqInt64S_ev xs xs hn).eq (by simp)
theorem specIn_eq (a b c : Int) : spec_l1In.f a b c = some (decide (b ≤ a ∧ a ≤ c)) := by
  unfold spec_l1In.f
  by_cases h : a ≥ b
  · rw [if_pos h]; simp [show b ≤ a from h]
  · rw [if_neg h]; simp; intro h'; omega
theorem implIn_eq (a b c : Int) : impl_in.f a b c = some (decide (b ≤ a ∧ a ≤ c)) := by
  unfold impl_in.f
  by_cases h : a ≥ b
  · rw [if_pos h]; simp [show b ≤ a from h]
  · rw [if_neg h]; simp; intro h'; omega
def inC (x : Int) : Bool := decide (-1000000000 ≤ x ∧ x ≤ 1000000000)
def rowF (xs : List Int) : Int := if 4 < xs.length then 2 else if xs.all inC = true then 0 else 3
theorem specRow_l0 (xs : List Int) (hn : xs.length ≤ 9223372036854775807) : ∀ (d i : Nat), i + d = xs.length → Ev (fun k => spec_RowFault.l0 k xs (i : Int)) (if (xs.drop i).all inC = true then 0 else 3) := by
  intro d
  induction d with
  | zero =>
    intro i hd
    refine Kit.Ev.up ?_
    simp only [spec_RowFault.l0]
    refine Kit.Ev.neg (by omega) (Kit.Ev.const ?_)
    rw [List.drop_eq_nil_of_le (by omega)]; simp
  | succ d ih =>
    intro i hd
    refine Kit.Ev.up ?_
    simp only [spec_RowFault.l0]
    refine Kit.Ev.pos (by omega) (Kit.Ev.pos (by omega) ?_)
    rw [specIn_eq]
    simp only [Option.bind_some]
    rw [rd_drop (xs := xs) (i := i) (by omega), w64n (n := xs.length) (by omega) hn]
    by_cases h : inC (rd xs (i : Int)) = true
    · refine Kit.Ev.pos h ((ih (i + 1) (by omega)).eq ?_)
      simp [h]
    · refine Kit.Ev.neg h (Kit.Ev.const ?_)
      simp [h]
theorem specRow_ev (xs : List Int) (hn : xs.length ≤ 9223372036854775807) : Ev (fun k => spec_RowFault.f k xs) (rowF xs) := by
  unfold spec_RowFault.f
  refine Kit.Ev.ite (fun h => Kit.Ev.const ?_) (fun h => ?_)
  · simp [rowF, show 4 < xs.length by omega]
  · exact (specRow_l0 xs hn xs.length 0 (by omega)).eq (by simp [rowF, show ¬ 4 < xs.length by omega])
theorem implRow_l0 (xs : List Int) (hn : xs.length ≤ 9223372036854775807) : ∀ (d i : Nat), i + d = xs.length → Ev (fun k => impl_RowFault.l0 k xs (xs.length : Int) (i : Int)) (if (xs.drop i).all inC = true then 0 else 3) := by
  intro d
  induction d with
  | zero =>
    intro i hd
    refine Kit.Ev.up ?_
    simp only [impl_RowFault.l0]
    refine Kit.Ev.neg (by omega) (Kit.Ev.const ?_)
    rw [List.drop_eq_nil_of_le (by omega)]; simp
  | succ d ih =>
    intro i hd
    refine Kit.Ev.up ?_
    simp only [impl_RowFault.l0]
    refine Kit.Ev.pos (by omega) (Kit.Ev.pos (by omega) (Kit.Ev.pos (by omega) ?_))
    rw [implIn_eq]
    simp only [Option.bind_some]
    rw [rd_drop (xs := xs) (i := i) (by omega), w64n (n := xs.length) (by omega) hn]
    by_cases h : inC (rd xs (i : Int)) = true
    · refine Kit.Ev.pos h ((ih (i + 1) (by omega)).eq ?_)
      simp [h]
    · refine Kit.Ev.neg h (Kit.Ev.const ?_)
      simp [h]
theorem implRow_ev (xs : List Int) (hn : xs.length ≤ 9223372036854775807) : Ev (fun k => impl_RowFault.f k xs) (rowF xs) := by
  unfold impl_RowFault.f
  refine Kit.Ev.ite (fun h => Kit.Ev.const ?_) (fun h => ?_)
  · simp [rowF, show 4 < xs.length by omega]
  · exact (implRow_l0 xs hn xs.length 0 (by omega)).eq (by simp [rowF, show ¬ 4 < xs.length by omega])
theorem eqByteS_l0 (xs ys : List Int) (hn : xs.length ≤ 9223372036854775807) (hl : xs.length = ys.length) : ∀ (d i : Nat), i + d = xs.length → Ev (fun k => laws_eqByteS.l0 k xs ys (i : Int)) (decide (xs.drop i = ys.drop i)) := by
  intro d
  induction d with
  | zero =>
    intro i hd
    refine Kit.Ev.up ?_
    simp only [laws_eqByteS.l0]
    refine Kit.Ev.neg (by omega) (Kit.Ev.const ?_)
    rw [List.drop_eq_nil_of_le (by omega), List.drop_eq_nil_of_le (by omega)]; simp
  | succ d ih =>
    intro i hd
    refine Kit.Ev.up ?_
    simp only [laws_eqByteS.l0]
    refine Kit.Ev.pos (by omega) (Kit.Ev.pos (by omega) (Kit.Ev.pos (by omega) ?_))
    rw [rd_drop (xs := xs) (i := i) (by omega), rd_drop (xs := ys) (i := i) (by omega), w64n (n := xs.length) (by omega) hn]
    refine Kit.Ev.ite (fun h => ?_) (fun h => Kit.Ev.const ?_)
    · exact (ih (i + 1) (by omega)).eq (by rw [h]; simp)
    · simp [h]
theorem eqByteS_ev (xs ys : List Int) (hn : xs.length ≤ 9223372036854775807) : Ev (fun k => laws_eqByteS.f k xs ys) (decide (xs = ys)) := by
  unfold laws_eqByteS.f
  refine Kit.Ev.ite (fun h => ?_) (fun h => Kit.Ev.const ?_)
  · exact (eqByteS_l0 xs ys hn (by omega) xs.length 0 (by omega)).eq (by simp)
  · have : xs ≠ ys := fun e => h (by rw [e])
    simp [this]
theorem eqByteS_refl (xs : List Int) (hn : xs.length ≤ 9223372036854775807) : Ev (fun k => laws_eqByteS.f k xs xs) true := (eqByteS_ev xs xs hn).eq (by simp)
/-- What a mark writes: count by count. -/
def seqF (f : Int → Int) (a : Int) : Nat → List Int
  | 0 => []
  | n + 1 => f a :: seqF f (a + 1) n
theorem seqF_len (f : Int → Int) : ∀ (n : Nat) (a : Int), (seqF f a n).length = n
  | 0, _ => rfl
  | n + 1, a => by simp only [seqF, List.length_cons, seqF_len f n]
theorem rd_mid (pre rest : List Int) (x : Int) : rd (pre ++ x :: rest) (pre.length : Int) = x := by
  rw [Kit.rd_nat, List.getD_eq_getElem?_getD, List.getElem?_append_right (Nat.le_refl _)]
  simp
theorem markInt64S_l0 : ∀ (rest pre : List Int) (a : Int), 0 ≤ a → a + rest.length ≤ 4611686018427387904 → pre.length + rest.length ≤ 4611686018427387904 → Ev (fun k => laws_markInt64S.l0 k (pre ++ rest) a (pre.length : Int)) (a + rest.length, pre ++ seqF (fun x => x) a rest.length)
  | [], pre, a, h0, h1, h2 => by
    refine Kit.Ev.up ?_
    simp only [laws_markInt64S.l0]
    exact Kit.Ev.neg (by simp) (Kit.Ev.const (by simp [seqF]))
  | x :: rest, pre, a, h0, h1, h2 => by
    simp only [List.length_cons] at h1 h2
    refine Kit.Ev.up ?_
    simp only [laws_markInt64S.l0]
    refine Kit.Ev.pos (by simp only [List.length_append, List.length_cons]; omega) (Kit.Ev.pos (by omega) ?_)
    have el : wrap64 ((pre.length : Int) + 1) = ((pre ++ [a]).length : Int) := by rw [Kit.w64 (by omega) (by omega)]; simp
    have es : (pre ++ x :: rest).set (pre.length : Int).toNat (a) = (pre ++ [a]) ++ rest := by simp
    rw [es, el, Kit.w64 (x := a + 1) (by omega) (by omega)]
    refine (markInt64S_l0 rest (pre ++ [a]) (a + 1) (by omega) (by omega) (by rw [List.length_append]; simp only [List.length_cons, List.length_nil]; omega)).eq ?_
    refine Prod.ext ?_ ?_
    · simp only [List.length_cons]; omega
    · simp only [List.length_cons, seqF, List.append_assoc, List.cons_append, List.nil_append]
theorem markInt64S_ev (l : List Int) (a : Int) (h0 : 0 ≤ a) (h1 : a + l.length ≤ 4611686018427387904) : Ev (fun k => laws_markInt64S.f k l a) (a + l.length, seqF (fun x => x) a l.length) := by
  unfold laws_markInt64S.f
  exact markInt64S_l0 l [] a h0 h1 (by simp only [List.length_nil]; omega)
theorem markByteS_l0 : ∀ (rest pre : List Int) (a : Int), 0 ≤ a → a + rest.length ≤ 4611686018427387904 → pre.length + rest.length ≤ 4611686018427387904 → Ev (fun k => laws_markByteS.l0 k (pre ++ rest) a (pre.length : Int)) (a + rest.length, pre ++ seqF (fun x => x % 256) a rest.length)
  | [], pre, a, h0, h1, h2 => by
    refine Kit.Ev.up ?_
    simp only [laws_markByteS.l0]
    exact Kit.Ev.neg (by simp) (Kit.Ev.const (by simp [seqF]))
  | x :: rest, pre, a, h0, h1, h2 => by
    simp only [List.length_cons] at h1 h2
    refine Kit.Ev.up ?_
    simp only [laws_markByteS.l0]
    refine Kit.Ev.pos (by simp only [List.length_append, List.length_cons]; omega) (Kit.Ev.pos (by omega) ?_)
    have el : wrap64 ((pre.length : Int) + 1) = ((pre ++ [a % 256]).length : Int) := by rw [Kit.w64 (by omega) (by omega)]; simp
    have es : (pre ++ x :: rest).set (pre.length : Int).toNat (a % 256) = (pre ++ [a % 256]) ++ rest := by simp
    rw [es, el, Kit.w64 (x := a + 1) (by omega) (by omega)]
    refine (markByteS_l0 rest (pre ++ [a % 256]) (a + 1) (by omega) (by omega) (by rw [List.length_append]; simp only [List.length_cons, List.length_nil]; omega)).eq ?_
    refine Prod.ext ?_ ?_
    · simp only [List.length_cons]; omega
    · simp only [List.length_cons, seqF, List.append_assoc, List.cons_append, List.nil_append]
theorem markByteS_ev (l : List Int) (a : Int) (h0 : 0 ≤ a) (h1 : a + l.length ≤ 4611686018427387904) : Ev (fun k => laws_markByteS.f k l a) (a + l.length, seqF (fun x => x % 256) a l.length) := by
  unfold laws_markByteS.f
  exact markByteS_l0 l [] a h0 h1 (by simp only [List.length_nil]; omega)
theorem heldByteS_l0 : ∀ (n : Nat) (pre : List Int) (a : Int), 0 ≤ a → a + n ≤ 4611686018427387904 → pre.length + n ≤ 4611686018427387904 → Ev (fun k => laws_heldByteS.l0 k (pre ++ seqF (fun x => x % 256) a n) a (pre.length : Int)) (a + n)
  | 0, pre, a, h0, h1, h2 => by
    refine Kit.Ev.up ?_
    simp only [laws_heldByteS.l0, seqF]
    exact Kit.Ev.neg (by simp) (Kit.Ev.const (by simp))
  | n + 1, pre, a, h0, h1, h2 => by
    refine Kit.Ev.up ?_
    simp only [laws_heldByteS.l0, seqF]
    refine Kit.Ev.pos (by simp only [List.length_append, List.length_cons]; omega) (Kit.Ev.pos (by omega) (Kit.Ev.pos (rd_mid _ _ _) ?_))
    have el : wrap64 ((pre.length : Int) + 1) = ((pre ++ [a % 256]).length : Int) := by rw [Kit.w64 (by omega) (by omega)]; simp
    have es : pre ++ (a % 256) :: seqF (fun x => x % 256) (a + 1) n = (pre ++ [a % 256]) ++ seqF (fun x => x % 256) (a + 1) n := by simp
    rw [es, el, Kit.w64 (x := a + 1) (by omega) (by omega)]
    exact (heldByteS_l0 n (pre ++ [a % 256]) (a + 1) (by omega) (by omega) (by rw [List.length_append]; simp only [List.length_cons, List.length_nil]; omega)).eq (by omega)
theorem heldByteS_ev (n : Nat) (a : Int) (h0 : 0 ≤ a) (h1 : a + n ≤ 4611686018427387904) : Ev (fun k => laws_heldByteS.f k (seqF (fun x => x % 256) a n) a) (a + n) := by
  unfold laws_heldByteS.f
  exact heldByteS_l0 n [] a h0 h1 (by simp only [List.length_nil]; omega)
def cellsN : List (List Int) → Nat
  | [] => 0
  | r :: rs => r.length + cellsN rs
def seqSS (a : Int) : List (List Int) → List (List Int)
  | [] => []
  | r :: rs => seqF (fun x => x) a r.length :: seqSS (a + r.length) rs
theorem seqSS_len : ∀ (l : List (List Int)) (a : Int), (seqSS a l).length = l.length
  | [], _ => rfl
  | r :: rs, a => by simp only [seqSS, List.length_cons, seqSS_len rs]
theorem getD_mid (pre rest : List (List Int)) (x : List Int) : (pre ++ x :: rest).getD ((pre.length : Int)).toNat [] = x := by
  rw [Int.toNat_natCast, List.getD_eq_getElem?_getD, List.getElem?_append_right (Nat.le_refl _)]
  simp
theorem markSS_l0 : ∀ (rest pre : List (List Int)) (a : Int), 0 ≤ a → a + cellsN rest ≤ 4611686018427387904 → pre.length + rest.length ≤ 4611686018427387904 → Ev (fun k => laws_markInt64SS.l0 k (pre ++ rest) a (pre.length : Int)) (a + cellsN rest, pre ++ seqSS a rest)
  | [], pre, a, h0, h1, h2 => by
    refine Kit.Ev.up ?_
    simp only [laws_markInt64SS.l0]
    exact Kit.Ev.neg (by simp) (Kit.Ev.const (by simp [seqSS, cellsN]))
  | r :: rest, pre, a, h0, h1, h2 => by
    simp only [List.length_cons, cellsN] at h1 h2
    refine Kit.Ev.up ?_
    simp only [laws_markInt64SS.l0]
    rw [getD_mid]
    refine Kit.Ev.pos (by simp only [List.length_append, List.length_cons]; omega) (Kit.Ev.pos (by omega) (Kit.Ev.then (markInt64S_ev r a h0 (by omega)) ?_))
    simp only
    have el : wrap64 ((pre.length : Int) + 1) = ((pre ++ [seqF (fun x => x) a r.length]).length : Int) := by rw [Kit.w64 (by omega) (by omega)]; simp
    have es : (pre ++ r :: rest).set (pre.length : Int).toNat (seqF (fun x => x) a r.length) = (pre ++ [seqF (fun x => x) a r.length]) ++ rest := by simp
    rw [es, el]
    refine (markSS_l0 rest (pre ++ [seqF (fun x => x) a r.length]) (a + r.length) (by omega) (by omega) (by rw [List.length_append]; simp only [List.length_cons, List.length_nil]; omega)).eq ?_
    refine Prod.ext ?_ ?_
    · simp only [cellsN]; omega
    · simp only [seqSS, List.append_assoc, List.cons_append, List.nil_append]
theorem markSS_ev (l : List (List Int)) (a : Int) (h0 : 0 ≤ a) (h1 : a + cellsN l ≤ 4611686018427387904) (h2 : l.length ≤ 4611686018427387904) : Ev (fun k => laws_markInt64SS.f k l a) (a + cellsN l, seqSS a l) := by
  unfold laws_markInt64SS.f
  exact markSS_l0 l [] a h0 h1 (by simp only [List.length_nil]; omega)
theorem markBytes_ev (x : Int) (l : List Int) (a : Int) (h0 : 0 ≤ a) (h1 : a + l.length ≤ 4611686018427387904) : Ev (fun k => laws_markBytesResult.f k x l a) (a + l.length, seqF (fun x => x % 256) a l.length) := by
  unfold laws_markBytesResult.f
  exact Kit.Ev.then (markByteS_ev l a h0 h1) (Kit.Ev.const rfl)
theorem heldBytes_ev (x : Int) (n : Nat) (a : Int) (h0 : 0 ≤ a) (h1 : a + n ≤ 4611686018427387904) : Ev (fun k => laws_heldBytesResult.f k x (seqF (fun x => x % 256) a n) a) (a + n) := by
  unfold laws_heldBytesResult.f
  exact Kit.Ev.then (heldByteS_ev n a h0 h1) (Kit.Ev.neg (by omega) (Kit.Ev.const rfl))
theorem eqBytes_refl (x : Int) (l : List Int) (hn : l.length ≤ 9223372036854775807) : Ev (fun k => laws_eqBytesResult.f k x l x l) true := by
  unfold laws_eqBytesResult.f
  exact Kit.Ev.pos rfl (Kit.Ev.then (eqByteS_refl l hn) (Kit.Ev.pos rfl (Kit.Ev.const rfl)))
theorem eqSS_refl (l : List (List Int)) (hn : l.length ≤ 9223372036854775807) (hr : ∀ r ∈ l, r.length ≤ 9223372036854775807) : Ev (fun k => laws_eqInt64SS.f k l l) true := by
  have L : ∀ (d i : Nat), i + d = l.length → Ev (fun k => laws_eqInt64SS.l0 k l l (i : Int)) true := by
    intro d
    induction d with
    | zero =>
      intro i hd
      refine Kit.Ev.up ?_
      simp only [laws_eqInt64SS.l0]
      exact Kit.Ev.neg (by omega) (Kit.Ev.const rfl)
    | succ d ih =>
      intro i hd
      refine Kit.Ev.up ?_
      simp only [laws_eqInt64SS.l0]
      have hm : rd_L1 l (i : Int) ∈ l := by
        have hi : i < l.length := by omega
        simp only [rd_L1, Int.toNat_natCast, List.getD_eq_getElem?_getD, List.getElem?_eq_getElem hi, Option.getD_some]
        exact List.getElem_mem hi
      refine Kit.Ev.pos (by omega) (Kit.Ev.pos (by omega) (Kit.Ev.pos (by omega) (Kit.Ev.then (eqInt64S_refl _ (hr _ hm)) (Kit.Ev.pos rfl ?_))))
      rw [w64n (n := l.length) (by omega) hn]
      exact ih (i + 1) (by omega)
  unfold laws_eqInt64SS.f
  exact Kit.Ev.pos rfl (L l.length 0 (by omega))
theorem toSS_l0 (xs : List (List Int)) (hn : xs.length ≤ 9223372036854775807) (hr : ∀ r ∈ xs, r.length ≤ 1048576) : ∀ (d i : Nat) (ys : List (List Int)), i + d = xs.length → ys.length = xs.length → (∀ j, j < i → ys[j]? = xs[j]?) → Ev (fun k => laws_toInt64SS.l0 k xs ys (i : Int)) xs := by
  intro d
  induction d with
  | zero =>
    intro i ys hd hl he
    refine Kit.Ev.up ?_
    simp only [laws_toInt64SS.l0]
    refine Kit.Ev.neg (by omega) (Kit.Ev.const ?_)
    congr 1
    apply List.ext_getElem?
    intro j
    by_cases hj : j < i
    · exact he j hj
    · rw [List.getElem?_eq_none (by omega), List.getElem?_eq_none (by omega)]
  | succ d ih =>
    intro i ys hd hl he
    refine Kit.Ev.up ?_
    simp only [laws_toInt64SS.l0]
    have hi : i < xs.length := by omega
    have hm : rd_L1 xs (i : Int) = xs[i] := by simp only [rd_L1, Int.toNat_natCast, List.getD_eq_getElem?_getD, List.getElem?_eq_getElem hi, Option.getD_some]
    rw [hm]
    refine Kit.Ev.pos (by omega) (Kit.Ev.pos (by omega) (Kit.Ev.then (toInt64S_ev _ (hr _ (List.getElem_mem hi))) (Kit.Ev.pos (by omega) ?_)))
    rw [w64n (n := xs.length) (by omega) hn, Int.toNat_natCast]
    refine ih (i + 1) _ (by omega) (by simpa using hl) (fun j hj => ?_)
    rw [List.getElem?_set]
    by_cases e : i = j
    · subst e
      rw [if_pos rfl, if_pos (by omega), List.getElem?_eq_getElem (by omega)]
    · rw [if_neg e]
      exact he j (by omega)
theorem toSS_ev (xs : List (List Int)) (hn : xs.length ≤ 1048576) (hr : ∀ r ∈ xs, r.length ≤ 1048576) : Ev (fun k => laws_toInt64SS.f k xs) xs := by
  unfold laws_toInt64SS.f
  refine Kit.Ev.pos (by omega) (Kit.Ev.pos (by omega) ?_)
  exact toSS_l0 xs (by omega) hr xs.length 0 _ (by omega) (by simp) (fun j hj => by omega)
theorem szRow_eq {l : List Int} {t : Int} (h0 : 0 ≤ t) (h1 : t ≤ 1048576) (hl : l.length ≤ 9223372036854775807) : laws_szInt64S.f l t = some (if t - (l.length : Int) < 0 then -1 else t - (l.length : Int)) := by
  unfold laws_szInt64S.f
  rw [Kit.w64 (by omega) (by omega)]
  by_cases h : t - (l.length : Int) < 0
  · rw [if_pos h, if_pos h]
  · rw [if_neg h, if_neg h]
theorem cellsN_le : ∀ (l : List (List Int)), ∀ r ∈ l, r.length ≤ cellsN l
  | [], _, h => by simp at h
  | x :: l, r, h => by
    simp only [cellsN]
    rcases List.mem_cons.mp h with rfl | h
    · omega
    · have := cellsN_le l r h; omega
theorem szSS_some (l : List (List Int)) (hn : l.length ≤ 9223372036854775807) (hr : ∀ r ∈ l, r.length ≤ 9223372036854775807) : ∃ z, Ev (fun k => laws_szInt64SS.f k l 1048576) z ∧ (0 ≤ z → l.length ≤ 1048576 ∧ cellsN l ≤ 1048576) := by
  have L : ∀ (d i : Nat) (t : Int), i + d = l.length → 0 ≤ t → t ≤ 1048576 → ∃ z, Ev (fun k => laws_szInt64SS.l0 k l t (i : Int)) z ∧ (0 ≤ z → (cellsN (l.drop i) : Int) ≤ t) := by
    intro d
    induction d with
    | zero =>
      intro i t hd h0 h1
      refine ⟨t, Kit.Ev.up ?_, fun _ => by rw [List.drop_eq_nil_of_le (by omega)]; simp only [cellsN]; omega⟩
      simp only [laws_szInt64SS.l0]
      exact Kit.Ev.neg (by omega) (Kit.Ev.const rfl)
    | succ d ih =>
      intro i t hd h0 h1
      have hi : i < l.length := by omega
      have hm : rd_L1 l (i : Int) = l[i] := by simp only [rd_L1, Int.toNat_natCast, List.getD_eq_getElem?_getD, List.getElem?_eq_getElem hi, Option.getD_some]
      have hz := szRow_eq (l := l[i]) h0 h1 (hr _ (List.getElem_mem hi))
      by_cases hc : t - ((l[i]).length : Int) < 0
      · rw [if_pos hc] at hz
        refine ⟨-1, Kit.Ev.up ?_, fun h => by omega⟩
        simp only [laws_szInt64SS.l0, hm]
        exact Kit.Ev.pos (by omega) (Kit.Ev.pos (by omega) (Kit.Ev.call hz (Kit.Ev.pos (by omega) (Kit.Ev.const rfl))))
      · rw [if_neg hc] at hz
        obtain ⟨z, H, hb⟩ := ih (i + 1) (t - ((l[i]).length : Int)) (by omega) (by omega) (by omega)
        refine ⟨z, Kit.Ev.up ?_, fun h => ?_⟩
        · simp only [laws_szInt64SS.l0, hm]
          refine Kit.Ev.pos (by omega) (Kit.Ev.pos (by omega) (Kit.Ev.call hz (Kit.Ev.neg hc ?_)))
          rw [w64n (n := l.length) (by omega) hn]
          exact H
        · have := hb h
          rw [List.drop_eq_getElem_cons hi]
          simp only [cellsN]; omega
  unfold laws_szInt64SS.f
  rw [Kit.w64 (by omega) (by omega)]
  by_cases hc : (1048576 : Int) - (l.length : Int) < 0
  · exact ⟨-1, Kit.Ev.pos hc (Kit.Ev.const rfl), fun h => by omega⟩
  · obtain ⟨z, H, hb⟩ := L l.length 0 (1048576 - (l.length : Int)) (by omega) (by omega) (by omega)
    refine ⟨z, Kit.Ev.neg hc H, fun h => ?_⟩
    have := hb h
    simp only [List.drop_zero] at this
    omega
/-- Several answers, and one number of rounds for all. -/
theorem evs_both {α β : Type} {g : Nat → Option α} {h : Nat → Option β} {r : α} {s : β} (a : Ev g r) (b : Ev h s) : ∃ K, ∀ k, K ≤ k → g k = some r ∧ h k = some s := by
  obtain ⟨K, a⟩ := a
  obtain ⟨K', b⟩ := b
  exact ⟨max K K', fun k hk => ⟨a k (by omega), b k (by omega)⟩⟩
def Late (p : Nat → Prop) : Prop := ∃ K, ∀ k, K ≤ k → p k
theorem Late.of {α : Type} {g : Nat → Option α} {r : α} (h : Ev g r) : Late (fun k => g k = some r) := h
theorem Late.and {p q : Nat → Prop} (a : Late p) (b : Late q) : Late (fun k => p k ∧ q k) := by
  obtain ⟨K, a⟩ := a
  obtain ⟨K', b⟩ := b
  exact ⟨max K K', fun k hk => ⟨a k (by omega), b k (by omega)⟩⟩
theorem Late.ex {p : Nat → Prop} (a : Late p) : ∃ k, p k := by
  obtain ⟨K, a⟩ := a
  exact ⟨K, a K (Nat.le_refl _)⟩
def cellB (c : Int) : List Int := [((c + 549755813888) / 4294967296) % 256, ((c + 549755813888) / 16777216) % 256, ((c + 549755813888) / 65536) % 256, ((c + 549755813888) / 256) % 256, (c + 549755813888) % 256]
def packR (r : List Int) : List Int := ((r.length : Int) % 256) :: r.flatMap cellB
def packG : List Int → List (List Int) → Int × List Int
  | out, [] => (0, out)
  | out, r :: rs => if rowF r = 0 then packG (out ++ packR r) rs else (rowF r, [])
def packV (rows : List (List Int)) : Int × List Int := if 60 < rows.length then (2, []) else packG [] rows
theorem rowF_zero {r : List Int} (h : rowF r = 0) : r.length ≤ 4 ∧ ∀ x ∈ r, -1000000000 ≤ x ∧ x ≤ 1000000000 := by
  unfold rowF at h
  by_cases h1 : 4 < r.length
  · rw [if_pos h1] at h; omega
  · rw [if_neg h1] at h
    by_cases h2 : r.all inC = true
    · refine ⟨by omega, fun x hx => ?_⟩
      have := List.all_eq_true.mp h2 x hx
      simpa [inC] using this
    · rw [if_neg h2] at h; omega
theorem cells_len : ∀ r : List Int, (r.flatMap cellB).length = 5 * r.length
  | [] => rfl
  | x :: r => by rw [List.flatMap_cons, List.length_append, cells_len r]; simp only [cellB, List.length_cons, List.length_nil]; omega
theorem packR_len (r : List Int) : (packR r).length = 1 + 5 * r.length := by simp only [packR, List.length_cons, cells_len]; omega
theorem rd2_drop {xs : List (List Int)} {i : Nat} (h : i < xs.length) : xs.drop i = rd_L1 xs (i : Int) :: xs.drop (i + 1) := by
  rw [List.drop_eq_getElem_cons h]
  simp [rd_L1, List.getD_eq_getElem?_getD, List.getElem?_eq_getElem h]
theorem rd2_mem {xs : List (List Int)} {i : Nat} (h : i < xs.length) : rd_L1 xs (i : Int) ∈ xs := by
  simp only [rd_L1, Int.toNat_natCast, List.getD_eq_getElem?_getD, List.getElem?_eq_getElem h, Option.getD_some]
  exact List.getElem_mem h
theorem rd_mem {xs : List Int} {i : Nat} (h : i < xs.length) : rd xs (i : Int) ∈ xs := by
  rw [Kit.rd_at h]; exact List.getElem_mem h
theorem putCell_eq (l : List Int) (c : Int) (h0 : -1000000000 ≤ c) (h1 : c ≤ 1000000000) (hl : l.length ≤ 1048576) : impl_putCell.f l c = some (l ++ cellB c) := by
  unfold impl_putCell.f
  simp only [Option.bind_some]
  rw [Kit.w64 (x := c + 549755813888) (by omega) (by omega)]
  rw [if_pos (by simp only [List.length_cons, List.length_nil]; omega)]
  rfl
theorem putRow_l0 (xs : List Int) (hx : ∀ x ∈ xs, -1000000000 ≤ x ∧ x ≤ 1000000000) (hn : xs.length ≤ 4) : ∀ (d i : Nat) (out : List Int), i + d = xs.length → out.length + 5 * d ≤ 1000000 → Ev (fun k => impl_putRow.l0 k out xs (xs.length : Int) (i : Int)) (out ++ (xs.drop i).flatMap cellB) := by
  intro d
  induction d with
  | zero =>
    intro i out hd _
    refine Kit.Ev.up ?_
    simp only [impl_putRow.l0]
    refine Kit.Ev.neg (by omega) (Kit.Ev.const ?_)
    rw [List.drop_eq_nil_of_le (by omega)]; simp
  | succ d ih =>
    intro i out hd hl
    refine Kit.Ev.up ?_
    simp only [impl_putRow.l0]
    refine Kit.Ev.pos (by omega) (Kit.Ev.pos (by omega) (Kit.Ev.pos (by omega) ?_))
    have hb := hx _ (rd_mem (xs := xs) (i := i) (by omega))
    refine Kit.Ev.call (putCell_eq out _ hb.1 hb.2 (by omega)) ?_
    rw [w64n (n := xs.length) (by omega) (by omega), rd_drop (xs := xs) (i := i) (by omega), List.flatMap_cons, ← List.append_assoc]
    exact ih (i + 1) _ (by omega) (by rw [List.length_append]; simp only [cellB, List.length_cons, List.length_nil]; omega)
theorem putRow_ev (out xs : List Int) (h : rowF xs = 0) (hl : out.length ≤ 900000) : Ev (fun k => impl_putRow.f k out xs) (out ++ packR xs) := by
  obtain ⟨hn, hx⟩ := rowF_zero h
  unfold impl_putRow.f
  refine Kit.Ev.pos (by omega) ?_
  refine (putRow_l0 xs hx hn xs.length 0 _ (by omega) (by rw [List.length_append]; simp only [List.length_cons, List.length_nil]; omega)).eq ?_
  simp [packR]
theorem implPack_l0 (rows : List (List Int)) (hr : ∀ r ∈ rows, r.length ≤ 1048576) (hn : rows.length ≤ 60) : ∀ (d i : Nat) (out : List Int), i + d = rows.length → out.length + 21 * d ≤ 100000 → Ev (fun k => impl_PackRows.l0 k out rows (rows.length : Int) (i : Int)) (packG out (rows.drop i)) := by
  intro d
  induction d with
  | zero =>
    intro i out hd _
    refine Kit.Ev.up ?_
    simp only [impl_PackRows.l0]
    refine Kit.Ev.neg (by omega) (Kit.Ev.const ?_)
    rw [List.drop_eq_nil_of_le (by omega)]; rfl
  | succ d ih =>
    intro i out hd hl
    refine Kit.Ev.up ?_
    simp only [impl_PackRows.l0]
    have hm := hr _ (rd2_mem (xs := rows) (i := i) (by omega))
    refine Kit.Ev.pos (by omega) (Kit.Ev.pos (by omega) (Kit.Ev.pos (by omega) (Kit.Ev.then (implRow_ev _ (by omega)) ?_)))
    rw [rd2_drop (xs := rows) (i := i) (by omega)]
    simp only [packG]
    by_cases h : rowF (rd_L1 rows (i : Int)) = 0
    · rw [if_pos h]
      refine Kit.Ev.pos h (Kit.Ev.then (putRow_ev out _ h (by omega)) ?_)
      rw [w64n (n := rows.length) (by omega) (by omega)]
      have := (rowF_zero h).1
      exact ih (i + 1) _ (by omega) (by rw [List.length_append, packR_len]; omega)
    · rw [if_neg h]
      exact Kit.Ev.neg h (Kit.Ev.const rfl)
theorem implPack_ev (rows : List (List Int)) (hr : ∀ r ∈ rows, r.length ≤ 1048576) : Ev (fun k => impl_PackRows.f k rows) (packV rows) := by
  unfold impl_PackRows.f
  refine Kit.Ev.ite (fun h => Kit.Ev.const ?_) (fun h => ?_)
  · simp [packV, show 60 < rows.length by omega]
  · refine (implPack_l0 rows hr (by omega) rows.length 0 [] (by omega) (by simp; omega)).eq ?_
    simp [packV, show ¬ 60 < rows.length by omega]
theorem shr_of (v : Int) (n : Nat) (hn : n ≤ 64) : shr .i64 v (n : Int) = v / 2 ^ n := by
  unfold shr
  have : (IntKind.i64).bits = 64 := rfl
  rw [this, Int.toNat_natCast, Nat.min_eq_left hn]
theorem specPack_l2 (rows : List (List Int)) (x4 x6 a : Int) (v : Int) (out : List Int) (hl : out.length ≤ 1000000) {r : Int × List Int}
    (H : Ev (fun k => spec_PackRows.l1 k rows x4 (wrap64 (x6 + 1)) a (out ++ [(v / 4294967296) % 256, (v / 16777216) % 256, (v / 65536) % 256, (v / 256) % 256, v % 256])) r) :
    Ev (fun k => spec_PackRows.l2 k rows x4 x6 v 4 a out) r := by
  refine Kit.Ev.up ?_
  simp only [spec_PackRows.l2]
  refine Kit.Ev.pos (by decide +kernel) (Kit.Ev.pos (by decide +kernel) (Kit.Ev.pos (by omega) ?_))
  have e4 : wrap64 (4 - 1) = 3 := by decide +kernel
  have e3 : wrap64 (3 - 1) = 2 := by decide +kernel
  have e2 : wrap64 (2 - 1) = 1 := by decide +kernel
  have e1 : wrap64 (1 - 1) = 0 := by decide +kernel
  have e0 : wrap64 (0 - 1) = -1 := by decide +kernel
  have s4 : IntKind.u64.wrap (wrap64 (8 * 4)) = ((32 : Nat) : Int) := by decide +kernel
  have s3 : IntKind.u64.wrap (wrap64 (8 * 3)) = ((24 : Nat) : Int) := by decide +kernel
  have s2 : IntKind.u64.wrap (wrap64 (8 * 2)) = ((16 : Nat) : Int) := by decide +kernel
  have s1 : IntKind.u64.wrap (wrap64 (8 * 1)) = ((8 : Nat) : Int) := by decide +kernel
  have s0 : IntKind.u64.wrap (wrap64 (8 * 0)) = ((0 : Nat) : Int) := by decide +kernel
  rw [e4, s4, shr_of v 32 (by omega)]
  refine Kit.Ev.up ?_
  simp only [spec_PackRows.l2]
  refine Kit.Ev.pos (by decide +kernel) (Kit.Ev.pos (by decide +kernel) (Kit.Ev.pos (by simp only [List.length_append, List.length_cons, List.length_nil]; omega) ?_))
  rw [e3, s3, shr_of v 24 (by omega)]
  refine Kit.Ev.up ?_
  simp only [spec_PackRows.l2]
  refine Kit.Ev.pos (by decide +kernel) (Kit.Ev.pos (by decide +kernel) (Kit.Ev.pos (by simp only [List.length_append, List.length_cons, List.length_nil]; omega) ?_))
  rw [e2, s2, shr_of v 16 (by omega)]
  refine Kit.Ev.up ?_
  simp only [spec_PackRows.l2]
  refine Kit.Ev.pos (by decide +kernel) (Kit.Ev.pos (by decide +kernel) (Kit.Ev.pos (by simp only [List.length_append, List.length_cons, List.length_nil]; omega) ?_))
  rw [e1, s1, shr_of v 8 (by omega)]
  refine Kit.Ev.up ?_
  simp only [spec_PackRows.l2]
  refine Kit.Ev.pos (by decide +kernel) (Kit.Ev.pos (by decide +kernel) (Kit.Ev.pos (by simp only [List.length_append, List.length_cons, List.length_nil]; omega) ?_))
  rw [e0, s0, shr_of v 0 (by omega)]
  refine Kit.Ev.up ?_
  simp only [spec_PackRows.l2]
  refine Kit.Ev.neg (by decide +kernel) ?_
  simpa using H
theorem specPack_l1 (rows : List (List Int)) (i : Nat) (hi : i < rows.length) (hn : rows.length ≤ 60) (a : Int) (xs : List Int) (hxs : rd_L1 rows (i : Int) = xs) (hx : ∀ x ∈ xs, -1000000000 ≤ x ∧ x ≤ 1000000000) (h4 : xs.length ≤ 4) {r : Int × List Int} : ∀ (d j : Nat) (out : List Int), j + d = xs.length → out.length + 5 * d ≤ 900000 →
    Ev (fun k => spec_PackRows.l0 k rows (((i + 1 : Nat)) : Int) a (out ++ (xs.drop j).flatMap cellB)) r →
    Ev (fun k => spec_PackRows.l1 k rows (i : Int) (j : Int) a out) r := by
  intro d
  induction d with
  | zero =>
    intro j out hd _ H
    refine Kit.Ev.up ?_
    simp only [spec_PackRows.l1, hxs]
    refine Kit.Ev.pos (by omega) (Kit.Ev.pos (by omega) (Kit.Ev.neg (by omega) ?_))
    rw [w64n (n := rows.length) (by omega) (by omega)]
    rw [List.drop_eq_nil_of_le (by omega)] at H
    simpa using H
  | succ d ih =>
    intro j out hd hl H
    refine Kit.Ev.up ?_
    simp only [spec_PackRows.l1, hxs]
    have hb := hx _ (rd_mem (xs := xs) (i := j) (by omega))
    refine Kit.Ev.pos (by omega) (Kit.Ev.pos (by omega) (Kit.Ev.pos (by omega) (Kit.Ev.pos (by omega) ?_)))
    rw [Kit.w64 (x := rd xs (j : Int) + 549755813888) (by omega) (by omega)]
    refine specPack_l2 rows _ _ a _ out (by omega) ?_
    rw [w64n (n := xs.length) (by omega) (by omega)]
    rw [rd_drop (xs := xs) (i := j) (by omega), List.flatMap_cons, ← List.append_assoc] at H
    exact ih (j + 1) _ (by omega) (by rw [List.length_append]; simp only [List.length_cons, List.length_nil]; omega) H
theorem specPack_l0 (rows : List (List Int)) (hr : ∀ r ∈ rows, r.length ≤ 1048576) (hn : rows.length ≤ 60) : ∀ (d i : Nat) (out : List Int), i + d = rows.length → out.length + 21 * d ≤ 100000 → Ev (fun k => spec_PackRows.l0 k rows (i : Int) 0 out) (packG out (rows.drop i)) := by
  intro d
  induction d with
  | zero =>
    intro i out hd _
    refine Kit.Ev.up ?_
    simp only [spec_PackRows.l0]
    refine Kit.Ev.neg (by omega) (Kit.Ev.const ?_)
    rw [List.drop_eq_nil_of_le (by omega)]; rfl
  | succ d ih =>
    intro i out hd hl
    refine Kit.Ev.up ?_
    simp only [spec_PackRows.l0]
    have hm := hr _ (rd2_mem (xs := rows) (i := i) (by omega))
    refine Kit.Ev.pos (by omega) (Kit.Ev.pos (by omega) (Kit.Ev.then (specRow_ev _ (by omega)) ?_))
    rw [rd2_drop (xs := rows) (i := i) (by omega)]
    simp only [packG]
    by_cases h : rowF (rd_L1 rows (i : Int)) = 0
    · rw [if_pos h]
      have hz := rowF_zero h
      refine Kit.Ev.pos h (Kit.Ev.pos (by omega) ?_)
      refine specPack_l1 rows i (by omega) hn 0 _ rfl hz.2 hz.1 (rd_L1 rows (i : Int)).length 0 _ (by omega) (by rw [List.length_append]; simp only [List.length_cons, List.length_nil]; omega) ?_
      have := ih (i + 1) (out ++ packR (rd_L1 rows (i : Int))) (by omega) (by rw [List.length_append, packR_len]; omega)
      simpa [packR] using this
    · rw [if_neg h]
      exact Kit.Ev.neg h (Kit.Ev.const rfl)
theorem specPack_ev (rows : List (List Int)) (hr : ∀ r ∈ rows, r.length ≤ 1048576) : Ev (fun k => spec_PackRows.f k rows) (packV rows) := by
  unfold spec_PackRows.f
  refine Kit.Ev.ite (fun h => Kit.Ev.const ?_) (fun h => ?_)
  · simp [packV, show 60 < rows.length by omega]
  · refine (specPack_l0 rows hr (by omega) rows.length 0 [] (by omega) (by simp; omega)).eq ?_
    simp [packV, show ¬ 60 < rows.length by omega]
theorem cellB_bytes (c : Int) : ∀ x ∈ cellB c, 0 ≤ x ∧ x ≤ 255 := by
  intro x hx
  simp only [cellB, List.mem_cons, List.not_mem_nil, or_false] at hx
  omega
theorem packR_bytes (r : List Int) : ∀ x ∈ packR r, 0 ≤ x ∧ x ≤ 255 := by
  intro x hx
  simp only [packR, List.mem_cons, List.mem_flatMap] at hx
  rcases hx with rfl | ⟨c, _, hc⟩
  · omega
  · exact cellB_bytes c x hc
theorem packG_bytes : ∀ (rs : List (List Int)) (out : List Int), (∀ x ∈ out, 0 ≤ x ∧ x ≤ 255) → (∀ x ∈ (packG out rs).2, 0 ≤ x ∧ x ≤ 255) ∧ (packG out rs).2.length ≤ out.length + 21 * rs.length
  | [], out, h => ⟨h, by simp [packG]⟩
  | r :: rs, out, h => by
    simp only [packG]
    by_cases hr : rowF r = 0
    · rw [if_pos hr]
      have := (rowF_zero hr).1
      obtain ⟨a, b⟩ := packG_bytes rs (out ++ packR r) (fun x hx => by
        rcases List.mem_append.mp hx with h' | h'
        · exact h x h'
        · exact packR_bytes r x h')
      refine ⟨a, ?_⟩
      rw [List.length_append, packR_len] at b
      simp only [List.length_cons]; omega
    · rw [if_neg hr]; exact ⟨by simp, by simp⟩
theorem packV_bytes (rs : List (List Int)) : (∀ x ∈ (packV rs).2, 0 ≤ x ∧ x ≤ 255) ∧ (packV rs).2.length ≤ 1260 := by
  unfold packV
  by_cases h : 60 < rs.length
  · rw [if_pos h]; exact ⟨by simp, by simp⟩
  · rw [if_neg h]
    obtain ⟨a, b⟩ := packG_bytes rs [] (by simp)
    exact ⟨a, by simp only [List.length_nil] at b; omega⟩
theorem FnExactPackRows : laws_FnExactPackRows.Pure := by
  intro l hm _
  unfold laws_FnExactPackRows.ok
  have hM : ∀ n : Nat, n ≤ maxLen → n ≤ 9223372036854775807 := fun n h => by simp only [maxLen] at h; omega
  obtain ⟨z, hz, hb⟩ := szSS_some l (hM _ hm.1) (fun r h => hM _ (hm.2 r h).1)
  by_cases hc : z < 0
  · obtain ⟨k, e⟩ := (Late.of hz).ex
    exact ⟨k, .inl ⟨z, e, hc⟩⟩
  obtain ⟨hn, hcl⟩ := hb (by omega)
  have hr : ∀ r ∈ l, r.length ≤ 1048576 := fun r h => by have := cellsN_le l r h; omega
  obtain ⟨pb, pl⟩ := packV_bytes l
  obtain ⟨k, e0, e1, e2, e3, e4, e5, e6, e7, e8⟩ := ((Late.of hz).and ((Late.of (toSS_ev l hn hr)).and ((Late.of (specPack_ev l hr)).and ((Late.of (implPack_ev l hr)).and ((Late.of (eqBytes_refl (packV l).1 (packV l).2 (by omega))).and ((Late.of (eqSS_refl l (by omega) (fun r h => by have := hr r h; omega))).and ((Late.of (markSS_ev l 1 (by omega) (by omega) (by omega))).and ((Late.of (markBytes_ev (packV l).1 (packV l).2 1 (by omega) (by omega))).and (Late.of (heldBytes_ev (packV l).1 (packV l).2.length 1 (by omega) (by omega))))))))))).ex
  exact ⟨k, .inr ⟨z, _, _, _, _, _, _, e0, e1, e2, e3, e4, e5, e6, e7, e8, by omega, by omega, by omega⟩⟩

end Go.Proofs.Ytljfhfkmbgkpoaa.Pure
