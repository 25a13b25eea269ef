/- The law FnExactPickCells answers true for every row and every list of places. -/
import Derived.Test.YtljfhfkmbgkpoaaKit
import Derived.Test.YtljfhfkmbgkpoaaVFnExactPickCells
namespace Go.Proofs.Ytljfhfkmbgkpoaa.Pure
open Go.RowKit Go.Proofs.Ytljfhfkmbgkpoaa.PFnExactPickCells Go.Proofs.YtljfhfkmbgkpoaaW.PrintWords Go.Proofs.YtljfhfkmbgkpoaaW.PrintLast Go.Proofs.Ytljfhfkmbgkpoaa
set_option linter.unusedSimpArgs false
set_option linter.unusedVariables false

theorem w64n {i n : Nat} (h : i < n) (hn : n ≤ 9223372036854775807) : wrap64 ((i : Int) + 1) = ((i + 1 : Nat) : Int) := by
  rw [Kit.w64 (by omega) (by omega)]; rfl
theorem rd_drop {xs : List Int} {i : Nat} (h : i < xs.length) : xs.drop i = rd xs (i : Int) :: xs.drop (i + 1) := by
  rw [Kit.rd_at h]; exact List.drop_eq_getElem_cons h
theorem toInt64S_l0 (xs : List Int) (hn : xs.length ≤ 9223372036854775807) : ∀ (d i : Nat) (ys : List Int), i + d = xs.length → ys.length = xs.length → (∀ j, j < i → ys[j]? = xs[j]?) → Ev (fun k => laws_toInt64S.l0 k xs ys (i : Int)) xs := by
  intro d
  induction d with
  | zero =>
    intro i ys hd hl he
    refine Kit.Ev.up ?_
    simp only [laws_toInt64S.l0]
    refine Kit.Ev.neg (by omega) (Kit.Ev.const ?_)
    congr 1
    apply List.ext_getElem?
    intro j
    by_cases hj : j < i
    · exact he j hj
    · rw [List.getElem?_eq_none (by omega), List.getElem?_eq_none (by omega)]
  | succ d ih =>
    intro i ys hd hl he
    refine Kit.Ev.up ?_
    simp only [laws_toInt64S.l0]
    refine Kit.Ev.pos (by omega) (Kit.Ev.pos (by omega) (Kit.Ev.pos (by omega) ?_))
    rw [w64n (n := xs.length) (by omega) hn, Int.toNat_natCast]
    refine ih (i + 1) _ (by omega) (by simpa using hl) (fun j hj => ?_)
    rw [List.getElem?_set]
    by_cases e : i = j
    · subst e
      rw [if_pos rfl, if_pos (by omega), Kit.rd_at (by omega), List.getElem?_eq_getElem (by omega)]
    · rw [if_neg e]
      exact he j (by omega)
theorem toInt64S_ev (xs : List Int) (hn : xs.length ≤ 1048576) : Ev (fun k => laws_toInt64S.f k xs) xs := by
  unfold laws_toInt64S.f
  refine Kit.Ev.pos (by omega) (Kit.Ev.pos (by omega) ?_)
  exact toInt64S_l0 xs (by omega) xs.length 0 _ (by omega) (by simp) (fun j hj => by omega)
theorem eqInt64S_l0 (xs ys : List Int) (hn : xs.length ≤ 9223372036854775807) (hl : xs.length = ys.length) : ∀ (d i : Nat), i + d = xs.length → Ev (fun k => laws_eqInt64S.l0 k xs ys (i : Int)) (decide (xs.drop i = ys.drop i)) := by
  intro d
  induction d with
  | zero =>
    intro i hd
    refine Kit.Ev.up ?_
    simp only [laws_eqInt64S.l0]
    refine Kit.Ev.neg (by omega) (Kit.Ev.const ?_)
    rw [List.drop_eq_nil_of_le (by omega), List.drop_eq_nil_of_le (by omega)]; simp
  | succ d ih =>
    intro i hd
    refine Kit.Ev.up ?_
    simp only [laws_eqInt64S.l0]
    refine Kit.Ev.pos (by omega) (Kit.Ev.pos (by omega) (Kit.Ev.pos (by omega) ?_))
    rw [rd_drop (xs := xs) (i := i) (by omega), rd_drop (xs := ys) (i := i) (by omega), w64n (n := xs.length) (by omega) hn]
    refine Kit.Ev.ite (fun h => ?_) (fun h => Kit.Ev.const ?_)
    · exact (ih (i + 1) (by omega)).eq (by rw [h]; simp)
    · simp [h]
theorem eqInt64S_ev (xs ys : List Int) (hn : xs.length ≤ 9223372036854775807) : Ev (fun k => laws_eqInt64S.f k xs ys) (decide (xs = ys)) := by
  unfold laws_eqInt64S.f
  refine Kit.Ev.ite (fun h => ?_) (fun h => Kit.Ev.const ?_)
  · exact (eqInt64S_l0 xs ys hn (by omega) xs.length 0 (by omega)).eq (by simp)
  · have : xs ≠ ys := fun e => h (by rw [e])
    simp [this]
theorem eqInt64S_refl (xs : List Int) (hn : xs.length ≤ 9223372036854775807) : Ev (fun k => laws_eqInt64S.f k xs xs) true := (eqInt64S_ev xs xs hn).eq (by simp)
theorem specIn_eq (a b c : Int) : spec_l1In.f a b c = some (decide (b ≤ a ∧ a ≤ c)) := by
  unfold spec_l1In.f
  by_cases h : a ≥ b
  · rw [if_pos h]; simp [show b ≤ a from h]
  · rw [if_neg h]; simp; intro h'; omega
theorem implIn_eq (a b c : Int) : impl_in.f a b c = some (decide (b ≤ a ∧ a ≤ c)) := by
  unfold impl_in.f
  by_cases h : a ≥ b
  · rw [if_pos h]; simp [show b ≤ a from h]
  · rw [if_neg h]; simp; intro h'; omega
def inC (x : Int) : Bool := decide (-1000000000 ≤ x ∧ x ≤ 1000000000)
def rowF (xs : List Int) : Int := if 4 < xs.length then 2 else if xs.all inC = true then 0 else 3
theorem specRow_l0 (xs : List Int) (hn : xs.length ≤ 9223372036854775807) : ∀ (d i : Nat), i + d = xs.length → Ev (fun k => spec_RowFault.l0 k xs (i : Int)) (if (xs.drop i).all inC = true then 0 else 3) := by
  intro d
  induction d with
  | zero =>
    intro i hd
    refine Kit.Ev.up ?_
    simp only [spec_RowFault.l0]
    refine Kit.Ev.neg (by omega) (Kit.Ev.const ?_)
    rw [List.drop_eq_nil_of_le (by omega)]; simp
  | succ d ih =>
    intro i hd
    refine Kit.Ev.up ?_
    simp only [spec_RowFault.l0]
    refine Kit.Ev.pos (by omega) (Kit.Ev.pos (by omega) ?_)
    rw [specIn_eq]
    simp only [Option.bind_some]
    rw [rd_drop (xs := xs) (i := i) (by omega), w64n (n := xs.length) (by omega) hn]
    by_cases h : inC (rd xs (i : Int)) = true
    · refine Kit.Ev.pos h ((ih (i + 1) (by omega)).eq ?_)
      simp [h]
    · refine Kit.Ev.neg h (Kit.Ev.const ?_)
      simp [h]
theorem specRow_ev (xs : List Int) (hn : xs.length ≤ 9223372036854775807) : Ev (fun k => spec_RowFault.f k xs) (rowF xs) := by
  unfold spec_RowFault.f
  refine Kit.Ev.ite (fun h => Kit.Ev.const ?_) (fun h => ?_)
  · simp [rowF, show 4 < xs.length by omega]
  · exact (specRow_l0 xs hn xs.length 0 (by omega)).eq (by simp [rowF, show ¬ 4 < xs.length by omega])
theorem implRow_l0 (xs : List Int) (hn : xs.length ≤ 9223372036854775807) : ∀ (d i : Nat), i + d = xs.length → Ev (fun k => impl_RowFault.l0 k xs (xs.length : Int) (i : Int)) (if (xs.drop i).all inC = true then 0 else 3) := by
  intro d
  induction d with
  | zero =>
    intro i hd
    refine Kit.Ev.up ?_
    simp only [impl_RowFault.l0]
    refine Kit.Ev.neg (by omega) (Kit.Ev.const ?_)
    rw [List.drop_eq_nil_of_le (by omega)]; simp
  | succ d ih =>
    intro i hd
    refine Kit.Ev.up ?_
    simp only [impl_RowFault.l0]
    refine Kit.Ev.pos (by omega) (Kit.Ev.pos (by omega) (Kit.Ev.pos (by omega) ?_))
    rw [implIn_eq]
    simp only [Option.bind_some]
    rw [rd_drop (xs := xs) (i := i) (by omega), w64n (n := xs.length) (by omega) hn]
    by_cases h : inC (rd xs (i : Int)) = true
    · refine Kit.Ev.pos h ((ih (i + 1) (by omega)).eq ?_)
      simp [h]
    · refine Kit.Ev.neg h (Kit.Ev.const ?_)
      simp [h]
theorem implRow_ev (xs : List Int) (hn : xs.length ≤ 9223372036854775807) : Ev (fun k => impl_RowFault.f k xs) (rowF xs) := by
  unfold impl_RowFault.f
  refine Kit.Ev.ite (fun h => Kit.Ev.const ?_) (fun h => ?_)
  · simp [rowF, show 4 < xs.length by omega]
  · exact (implRow_l0 xs hn xs.length 0 (by omega)).eq (by simp [rowF, show ¬ 4 < xs.length by omega])
def cellV (a b c d e : Int) : Int := (((a * 256 + b) * 256 + c) * 256 + d) * 256 + e - 549755813888
def cells : Nat → List Int → List Int
  | 0, _ => []
  | n + 1, l => cellV (rd l 0) (rd l 1) (rd l 2) (rd l 3) (rd l 4) :: cells n (l.drop 5)
def rowOk (b : Int) (rest : List Int) : Prop := b ≤ 4 ∧ 5 * b ≤ (rest.length : Int) ∧ rowF (cells b.toNat rest) = 0
instance (b : Int) (rest : List Int) : Decidable (rowOk b rest) := by unfold rowOk; infer_instance
def unG : Nat → Int → List (List Int) → List Int → Int × Int × List (List Int)
  | 0, _, rows, _ => (0, 0, rows)
  | _ + 1, _, rows, [] => (0, 0, rows)
  | n + 1, at_, rows, b :: rest =>
    if rowOk b rest ∧ rows.length ≠ 60 then unG n (at_ + 1 + 5 * b) (rows ++ [cells b.toNat rest]) (rest.drop (5 * b.toNat)) else (5, at_, [])
def unV (data : List Int) : Int × Int × List (List Int) := unG (data.length + 1) 0 [] data
theorem cells_length : ∀ (n : Nat) (l : List Int), (cells n l).length = n
  | 0, _ => rfl
  | n + 1, l => by simp only [cells, List.length_cons, cells_length n]
theorem cells_snoc : ∀ (n : Nat) (l : List Int), cells (n + 1) l = cells n l ++ [cellV (rd (l.drop (5 * n)) 0) (rd (l.drop (5 * n)) 1) (rd (l.drop (5 * n)) 2) (rd (l.drop (5 * n)) 3) (rd (l.drop (5 * n)) 4)]
  | 0, l => by simp [cells]
  | n + 1, l => by
    rw [cells, cells_snoc n (l.drop 5), cells, List.cons_append, List.drop_drop]
    rw [show 5 + 5 * n = 5 * (n + 1) by omega]
theorem rd_dropi (l : List Int) (m i : Nat) : rd (l.drop m) (i : Int) = rd l ((m + i : Nat) : Int) := by
  rw [Kit.rd_nat, Kit.rd_nat, List.getD_eq_getElem?_getD, List.getD_eq_getElem?_getD, List.getElem?_drop]
def hasC (row : List Int) (c : Int) : Bool := decide (0 ≤ c ∧ c ≤ (row.length : Int) - 1)
def pickL (row cells : List Int) : List Int := cells.map (fun c => Go.Proofs.YtljfhfkmbgkpoaaW.PrintWords.rd row c)
theorem hasC_of {row cells : List Int} (h : ¬ cells.any (fun c => !hasC row c) = true) : ∀ c ∈ cells, 0 ≤ c ∧ c < (row.length : Int) := by
  intro c hc
  have : hasC row c = true := by
    cases hb : hasC row c with
    | true => rfl
    | false => exact absurd (List.any_eq_true.mpr ⟨c, hc, by rw [hb]; rfl⟩) h
  have := of_decide_eq_true this
  omega
theorem specCells_l0 (row cells : List Int) (hn : cells.length ≤ 1048576) (hc : ∀ c ∈ cells, 0 ≤ c ∧ c < (row.length : Int)) : ∀ (d j : Nat) (out : List Int), j + d = cells.length → out.length ≤ j → Ev (fun k => spec_l1Cells.l0 k row cells out (j : Int)) (out ++ pickL row (cells.drop j)) := by
  intro d
  induction d with
  | zero =>
    intro j out hd ho
    refine Kit.Ev.up ?_
    simp only [spec_l1Cells.l0]
    refine Kit.Ev.neg (by omega) (Kit.Ev.const ?_)
    rw [List.drop_eq_nil_of_le (by omega)]; simp [pickL]
  | succ d ih =>
    intro j out hd ho
    have hj : j < cells.length := by omega
    obtain ⟨h0, h1⟩ := hc _ (List.getElem_mem hj)
    refine Kit.Ev.up ?_
    simp only [spec_l1Cells.l0, Kit.rd_at hj]
    rw [w64n (n := cells.length) (by omega) (by omega)]
    refine Kit.Ev.pos (by omega) (Kit.Ev.pos (by omega) (Kit.Ev.pos h0 (Kit.Ev.pos h1 (Kit.Ev.pos (by omega) ?_))))
    refine (ih (j + 1) (out ++ [Go.Proofs.YtljfhfkmbgkpoaaW.PrintWords.rd row cells[j]]) (by omega) (by rw [List.length_append]; simp only [List.length_cons, List.length_nil]; omega)).eq ?_
    rw [List.drop_eq_getElem_cons hj, List.append_assoc]; rfl
theorem specCells_ev (row cells : List Int) (hn : cells.length ≤ 1048576) (hc : ∀ c ∈ cells, 0 ≤ c ∧ c < (row.length : Int)) : Ev (fun k => spec_l1Cells.f k row cells) (pickL row cells) := by
  unfold spec_l1Cells.f
  exact specCells_l0 row cells hn hc cells.length 0 [] (by omega) (by simp)
theorem implPicked_l0 (row cells : List Int) (hn : cells.length ≤ 1048576) (hc : ∀ c ∈ cells, 0 ≤ c ∧ c < (row.length : Int)) : ∀ (d j : Nat) (out : List Int), j + d = cells.length → out.length ≤ j → Ev (fun k => impl_picked.l0 k row out cells (cells.length : Int) (j : Int)) (out ++ pickL row (cells.drop j)) := by
  intro d
  induction d with
  | zero =>
    intro j out hd ho
    refine Kit.Ev.up ?_
    simp only [impl_picked.l0]
    refine Kit.Ev.neg (by omega) (Kit.Ev.const ?_)
    rw [List.drop_eq_nil_of_le (by omega)]; simp [pickL]
  | succ d ih =>
    intro j out hd ho
    have hj : j < cells.length := by omega
    obtain ⟨h0, h1⟩ := hc _ (List.getElem_mem hj)
    refine Kit.Ev.up ?_
    simp only [impl_picked.l0, Kit.rd_at hj]
    rw [w64n (n := cells.length) (by omega) (by omega)]
    refine Kit.Ev.pos (by omega) (Kit.Ev.pos (by omega) (Kit.Ev.pos (by omega) (Kit.Ev.pos h0 (Kit.Ev.pos h1 (Kit.Ev.pos (by omega) ?_)))))
    refine (ih (j + 1) (out ++ [Go.Proofs.YtljfhfkmbgkpoaaW.PrintWords.rd row cells[j]]) (by omega) (by rw [List.length_append]; simp only [List.length_cons, List.length_nil]; omega)).eq ?_
    rw [List.drop_eq_getElem_cons hj, List.append_assoc]; rfl
theorem implPicked_ev (row cells : List Int) (hn : cells.length ≤ 1048576) (hc : ∀ c ∈ cells, 0 ≤ c ∧ c < (row.length : Int)) : Ev (fun k => impl_picked.f k row cells) (pickL row cells) := by
  unfold impl_picked.f
  exact implPicked_l0 row cells hn hc cells.length 0 [] (by omega) (by simp)
/-- What a mark writes: count by count. -/
def seqF (f : Int → Int) (a : Int) : Nat → List Int
  | 0 => []
  | n + 1 => f a :: seqF f (a + 1) n
theorem seqF_len (f : Int → Int) : ∀ (n : Nat) (a : Int), (seqF f a n).length = n
  | 0, _ => rfl
  | n + 1, a => by simp only [seqF, List.length_cons, seqF_len f n]
theorem rd_mid (pre rest : List Int) (x : Int) : rd (pre ++ x :: rest) (pre.length : Int) = x := by
  rw [Kit.rd_nat, List.getD_eq_getElem?_getD, List.getElem?_append_right (Nat.le_refl _)]
  simp
theorem markInt64S_l0 : ∀ (rest pre : List Int) (a : Int), 0 ≤ a → a + rest.length ≤ 4611686018427387904 → pre.length + rest.length ≤ 4611686018427387904 → Ev (fun k => laws_markInt64S.l0 k (pre ++ rest) a (pre.length : Int)) (a + rest.length, pre ++ seqF (fun x => x) a rest.length)
  | [], pre, a, h0, h1, h2 => by
    refine Kit.Ev.up ?_
    simp only [laws_markInt64S.l0]
    exact Kit.Ev.neg (by simp) (Kit.Ev.const (by simp [seqF]))
  | x :: rest, pre, a, h0, h1, h2 => by
    simp only [List.length_cons] at h1 h2
    refine Kit.Ev.up ?_
    simp only [laws_markInt64S.l0]
    refine Kit.Ev.pos (by simp only [List.length_append, List.length_cons]; omega) (Kit.Ev.pos (by omega) ?_)
    have el : wrap64 ((pre.length : Int) + 1) = ((pre ++ [a]).length : Int) := by rw [Kit.w64 (by omega) (by omega)]; simp
    have es : (pre ++ x :: rest).set (pre.length : Int).toNat (a) = (pre ++ [a]) ++ rest := by simp
    rw [es, el, Kit.w64 (x := a + 1) (by omega) (by omega)]
    refine (markInt64S_l0 rest (pre ++ [a]) (a + 1) (by omega) (by omega) (by rw [List.length_append]; simp only [List.length_cons, List.length_nil]; omega)).eq ?_
    refine Prod.ext ?_ ?_
    · simp only [List.length_cons]; omega
    · simp only [List.length_cons, seqF, List.append_assoc, List.cons_append, List.nil_append]
theorem markInt64S_ev (l : List Int) (a : Int) (h0 : 0 ≤ a) (h1 : a + l.length ≤ 4611686018427387904) : Ev (fun k => laws_markInt64S.f k l a) (a + l.length, seqF (fun x => x) a l.length) := by
  unfold laws_markInt64S.f
  exact markInt64S_l0 l [] a h0 h1 (by simp only [List.length_nil]; omega)
theorem heldInt64S_l0 : ∀ (n : Nat) (pre : List Int) (a : Int), 0 ≤ a → a + n ≤ 4611686018427387904 → pre.length + n ≤ 4611686018427387904 → Ev (fun k => laws_heldInt64S.l0 k (pre ++ seqF (fun x => x) a n) a (pre.length : Int)) (a + n)
  | 0, pre, a, h0, h1, h2 => by
    refine Kit.Ev.up ?_
    simp only [laws_heldInt64S.l0, seqF]
    exact Kit.Ev.neg (by simp) (Kit.Ev.const (by simp))
  | n + 1, pre, a, h0, h1, h2 => by
    refine Kit.Ev.up ?_
    simp only [laws_heldInt64S.l0, seqF]
    refine Kit.Ev.pos (by simp only [List.length_append, List.length_cons]; omega) (Kit.Ev.pos (by omega) (Kit.Ev.pos (rd_mid _ _ _) ?_))
    have el : wrap64 ((pre.length : Int) + 1) = ((pre ++ [a]).length : Int) := by rw [Kit.w64 (by omega) (by omega)]; simp
    have es : pre ++ (a) :: seqF (fun x => x) (a + 1) n = (pre ++ [a]) ++ seqF (fun x => x) (a + 1) n := by simp
    rw [es, el, Kit.w64 (x := a + 1) (by omega) (by omega)]
    exact (heldInt64S_l0 n (pre ++ [a]) (a + 1) (by omega) (by omega) (by rw [List.length_append]; simp only [List.length_cons, List.length_nil]; omega)).eq (by omega)
theorem heldInt64S_ev (n : Nat) (a : Int) (h0 : 0 ≤ a) (h1 : a + n ≤ 4611686018427387904) : Ev (fun k => laws_heldInt64S.f k (seqF (fun x => x) a n) a) (a + n) := by
  unfold laws_heldInt64S.f
  exact heldInt64S_l0 n [] a h0 h1 (by simp only [List.length_nil]; omega)
def cellsN : List (List Int) → Nat
  | [] => 0
  | r :: rs => r.length + cellsN rs
def seqSS (a : Int) : List (List Int) → List (List Int)
  | [] => []
  | r :: rs => seqF (fun x => x) a r.length :: seqSS (a + r.length) rs
theorem seqSS_len : ∀ (l : List (List Int)) (a : Int), (seqSS a l).length = l.length
  | [], _ => rfl
  | r :: rs, a => by simp only [seqSS, List.length_cons, seqSS_len rs]
theorem getD_mid (pre rest : List (List Int)) (x : List Int) : (pre ++ x :: rest).getD ((pre.length : Int)).toNat [] = x := by
  rw [Int.toNat_natCast, List.getD_eq_getElem?_getD, List.getElem?_append_right (Nat.le_refl _)]
  simp
theorem markSS_l0 : ∀ (rest pre : List (List Int)) (a : Int), 0 ≤ a → a + cellsN rest ≤ 4611686018427387904 → pre.length + rest.length ≤ 4611686018427387904 → Ev (fun k => laws_markInt64SS.l0 k (pre ++ rest) a (pre.length : Int)) (a + cellsN rest, pre ++ seqSS a rest)
  | [], pre, a, h0, h1, h2 => by
    refine Kit.Ev.up ?_
    simp only [laws_markInt64SS.l0]
    exact Kit.Ev.neg (by simp) (Kit.Ev.const (by simp [seqSS, cellsN]))
  | r :: rest, pre, a, h0, h1, h2 => by
    simp only [List.length_cons, cellsN] at h1 h2
    refine Kit.Ev.up ?_
    simp only [laws_markInt64SS.l0]
    rw [getD_mid]
    refine Kit.Ev.pos (by simp only [List.length_append, List.length_cons]; omega) (Kit.Ev.pos (by omega) (Kit.Ev.then (markInt64S_ev r a h0 (by omega)) ?_))
    simp only
    have el : wrap64 ((pre.length : Int) + 1) = ((pre ++ [seqF (fun x => x) a r.length]).length : Int) := by rw [Kit.w64 (by omega) (by omega)]; simp
    have es : (pre ++ r :: rest).set (pre.length : Int).toNat (seqF (fun x => x) a r.length) = (pre ++ [seqF (fun x => x) a r.length]) ++ rest := by simp
    rw [es, el]
    refine (markSS_l0 rest (pre ++ [seqF (fun x => x) a r.length]) (a + r.length) (by omega) (by omega) (by rw [List.length_append]; simp only [List.length_cons, List.length_nil]; omega)).eq ?_
    refine Prod.ext ?_ ?_
    · simp only [cellsN]; omega
    · simp only [seqSS, List.append_assoc, List.cons_append, List.nil_append]
theorem markSS_ev (l : List (List Int)) (a : Int) (h0 : 0 ≤ a) (h1 : a + cellsN l ≤ 4611686018427387904) (h2 : l.length ≤ 4611686018427387904) : Ev (fun k => laws_markInt64SS.f k l a) (a + cellsN l, seqSS a l) := by
  unfold laws_markInt64SS.f
  exact markSS_l0 l [] a h0 h1 (by simp only [List.length_nil]; omega)
theorem heldSS_l0 : ∀ (rest pre : List (List Int)) (a : Int), 0 ≤ a → a + cellsN rest ≤ 4611686018427387904 → pre.length + rest.length ≤ 4611686018427387904 → Ev (fun k => laws_heldInt64SS.l0 k (pre ++ seqSS a rest) a (pre.length : Int)) (a + cellsN rest)
  | [], pre, a, h0, h1, h2 => by
    refine Kit.Ev.up ?_
    simp only [laws_heldInt64SS.l0, seqSS]
    exact Kit.Ev.neg (by simp) (Kit.Ev.const (by simp [cellsN]))
  | r :: rest, pre, a, h0, h1, h2 => by
    simp only [List.length_cons, cellsN] at h1 h2
    refine Kit.Ev.up ?_
    simp only [laws_heldInt64SS.l0, seqSS, rd_L1]
    rw [getD_mid]
    refine Kit.Ev.pos (by simp only [List.length_append, List.length_cons]; omega) (Kit.Ev.pos (by omega) (Kit.Ev.then (heldInt64S_ev r.length a h0 (by omega)) (Kit.Ev.neg (by omega) ?_)))
    have el : wrap64 ((pre.length : Int) + 1) = ((pre ++ [seqF (fun x => x) a r.length]).length : Int) := by rw [Kit.w64 (by omega) (by omega)]; simp
    have es : pre ++ seqF (fun x => x) a r.length :: seqSS (a + r.length) rest = (pre ++ [seqF (fun x => x) a r.length]) ++ seqSS (a + r.length) rest := by simp
    rw [es, el]
    exact (heldSS_l0 rest (pre ++ [seqF (fun x => x) a r.length]) (a + r.length) (by omega) (by omega) (by rw [List.length_append]; simp only [List.length_cons, List.length_nil]; omega)).eq (by simp only [cellsN]; omega)
theorem heldSS_ev (l : List (List Int)) (a : Int) (h0 : 0 ≤ a) (h1 : a + cellsN l ≤ 4611686018427387904) (h2 : l.length ≤ 4611686018427387904) : Ev (fun k => laws_heldInt64SS.f k (seqSS a l) a) (a + cellsN l) := by
  unfold laws_heldInt64SS.f
  exact heldSS_l0 l [] a h0 h1 (by simp only [List.length_nil]; omega)
theorem heldRows_ev (x y : Int) (l : List (List Int)) (a : Int) (h0 : 0 ≤ a) (h1 : a + cellsN l ≤ 4611686018427387904) (h2 : l.length ≤ 4611686018427387904) : Ev (fun k => laws_heldRowsResult.f k x y (seqSS a l) a) (a + cellsN l) := by
  unfold laws_heldRowsResult.f
  exact Kit.Ev.then (heldSS_ev l a h0 h1 h2) (Kit.Ev.neg (by omega) (Kit.Ev.const rfl))
theorem markRows_ev (x y : Int) (l : List (List Int)) (a : Int) (h0 : 0 ≤ a) (h1 : a + cellsN l ≤ 4611686018427387904) (h2 : l.length ≤ 4611686018427387904) : Ev (fun k => laws_markRowsResult.f k x y l a) (a + cellsN l, seqSS a l) := markSS_ev l a h0 h1 h2
theorem eqSS_refl (l : List (List Int)) (hn : l.length ≤ 9223372036854775807) (hr : ∀ r ∈ l, r.length ≤ 9223372036854775807) : Ev (fun k => laws_eqInt64SS.f k l l) true := by
  have L : ∀ (d i : Nat), i + d = l.length → Ev (fun k => laws_eqInt64SS.l0 k l l (i : Int)) true := by
    intro d
    induction d with
    | zero =>
      intro i hd
      refine Kit.Ev.up ?_
      simp only [laws_eqInt64SS.l0]
      exact Kit.Ev.neg (by omega) (Kit.Ev.const rfl)
    | succ d ih =>
      intro i hd
      refine Kit.Ev.up ?_
      simp only [laws_eqInt64SS.l0]
      have hm : rd_L1 l (i : Int) ∈ l := by
        have hi : i < l.length := by omega
        simp only [rd_L1, Int.toNat_natCast, List.getD_eq_getElem?_getD, List.getElem?_eq_getElem hi, Option.getD_some]
        exact List.getElem_mem hi
      refine Kit.Ev.pos (by omega) (Kit.Ev.pos (by omega) (Kit.Ev.pos (by omega) (Kit.Ev.then (eqInt64S_refl _ (hr _ hm)) (Kit.Ev.pos rfl ?_))))
      rw [w64n (n := l.length) (by omega) hn]
      exact ih (i + 1) (by omega)
  unfold laws_eqInt64SS.f
  exact Kit.Ev.pos rfl (L l.length 0 (by omega))
theorem eqRows_refl (x y : Int) (l : List (List Int)) (hn : l.length ≤ 9223372036854775807) (hr : ∀ r ∈ l, r.length ≤ 9223372036854775807) : Ev (fun k => laws_eqRowsResult.f k x y l x y l) true := by
  unfold laws_eqRowsResult.f
  exact Kit.Ev.pos rfl (Kit.Ev.pos rfl (Kit.Ev.then (eqSS_refl l hn hr) (Kit.Ev.pos rfl (Kit.Ev.const rfl))))
/-- Several answers, and one number of rounds for all. -/
theorem evs_both {α β : Type} {g : Nat → Option α} {h : Nat → Option β} {r : α} {s : β} (a : Ev g r) (b : Ev h s) : ∃ K, ∀ k, K ≤ k → g k = some r ∧ h k = some s := by
  obtain ⟨K, a⟩ := a
  obtain ⟨K', b⟩ := b
  exact ⟨max K K', fun k hk => ⟨a k (by omega), b k (by omega)⟩⟩
def Late (p : Nat → Prop) : Prop := ∃ K, ∀ k, K ≤ k → p k
theorem Late.of {α : Type} {g : Nat → Option α} {r : α} (h : Ev g r) : Late (fun k => g k = some r) := h
theorem Late.and {p q : Nat → Prop} (a : Late p) (b : Late q) : Late (fun k => p k ∧ q k) := by
  obtain ⟨K, a⟩ := a
  obtain ⟨K', b⟩ := b
  exact ⟨max K K', fun k hk => ⟨a k (by omega), b k (by omega)⟩⟩
theorem Late.ex {p : Nat → Prop} (a : Late p) : ∃ k, p k := by
  obtain ⟨K, a⟩ := a
  exact ⟨K, a K (Nat.le_refl _)⟩
def pickF (row cells : List Int) : Int × Int × List (List Int) :=
  if rowF row = 0 then (if 4 < cells.length then (2, 0, []) else if cells.any (fun c => !hasC row c) = true then (3, 0, []) else (0, 0, [pickL row cells])) else (rowF row, 0, [])
theorem pickF_rows {row cells : List Int} {n : Nat} (hn : cells.length ≤ n) : (pickF row cells).2.2.length ≤ 1 ∧ ∀ r ∈ (pickF row cells).2.2, r.length ≤ n := by
  have nil : ([] : List (List Int)).length ≤ 1 ∧ ∀ r ∈ ([] : List (List Int)), r.length ≤ n := ⟨by simp, by simp⟩
  unfold pickF
  by_cases h1 : rowF row = 0
  · rw [if_pos h1]
    by_cases h2 : 4 < cells.length
    · rw [if_pos h2]; exact nil
    · rw [if_neg h2]
      by_cases h3 : cells.any (fun c => !hasC row c) = true
      · rw [if_pos h3]; exact nil
      · rw [if_neg h3]
        refine ⟨by simp, fun r hr => ?_⟩
        rw [List.mem_singleton.mp hr]
        unfold pickL
        rw [List.length_map]; exact hn
  · rw [if_neg h1]; exact nil
theorem specPick_l0 (row cells : List Int) (hn : cells.length ≤ 1048576) (hr : row.length ≤ 1048576) : ∀ (d j : Nat), j + d = cells.length → (∀ c ∈ cells.take j, hasC row c = true) → Ev (fun k => spec_PickCells.l0 k row cells (j : Int)) (if cells.any (fun c => !hasC row c) = true then (3, 0, []) else (0, 0, [pickL row cells])) := by
  intro d
  induction d with
  | zero =>
    intro j hd hg
    rw [List.take_of_length_le (by omega)] at hg
    have hb : ¬ cells.any (fun c => !hasC row c) = true := by
      intro h
      obtain ⟨c, h1, h2⟩ := List.any_eq_true.mp h
      rw [hg c h1] at h2
      exact absurd h2 (by decide)
    refine Kit.Ev.up ?_
    simp only [spec_PickCells.l0]
    rw [if_neg hb]
    exact Kit.Ev.neg (by omega) (Kit.Ev.then (specCells_ev row cells hn (hasC_of hb)) (Kit.Ev.const rfl))
  | succ d ih =>
    intro j hd hg
    have hj : j < cells.length := by omega
    refine Kit.Ev.up ?_
    simp only [spec_PickCells.l0, Kit.rd_at hj, specIn_eq, Option.bind_some]
    rw [w64n (n := cells.length) (by omega) (by omega), Kit.w64 (x := ((row.length : Nat) : Int) - 1) (by omega) (by omega)]
    refine Kit.Ev.pos (by omega) (Kit.Ev.pos (by omega) ?_)
    by_cases h : hasC row cells[j] = true
    · refine Kit.Ev.pos h (ih (j + 1) (by omega) (fun c hc => ?_))
      rw [List.take_add_one, List.getElem?_eq_getElem hj] at hc
      rcases List.mem_append.mp hc with h1 | h1
      · exact hg c h1
      · rw [List.mem_singleton.mp h1]; exact h
    · refine Kit.Ev.neg h (Kit.Ev.const ?_)
      have hb : cells.any (fun c => !hasC row c) = true := List.any_eq_true.mpr ⟨cells[j], List.getElem_mem hj, by simp only [Bool.not_eq_true] at h; rw [h]; rfl⟩
      rw [if_pos hb]
theorem specPick_ev (row cells : List Int) (hn : cells.length ≤ 1048576) (hr : row.length ≤ 1048576) : Ev (fun k => spec_PickCells.f k row cells) (pickF row cells) := by
  unfold spec_PickCells.f pickF
  refine Kit.Ev.then (specRow_ev row (by omega)) (Kit.Ev.ite2 (fun _ => ?_) (fun _ => Kit.Ev.const rfl))
  by_cases h : 4 < cells.length
  · rw [if_pos h]; exact Kit.Ev.pos (by omega) (Kit.Ev.const rfl)
  · rw [if_neg h]
    exact Kit.Ev.neg (by omega) (specPick_l0 row cells hn hr cells.length 0 (by omega) (by simp))
theorem implPick_l0 (row cells : List Int) (hn : cells.length ≤ 1048576) (hr : row.length ≤ 1048576) : ∀ (d j : Nat), j + d = cells.length → (∀ c ∈ cells.take j, hasC row c = true) → Ev (fun k => impl_PickCells.l0 k row cells cells (cells.length : Int) (j : Int)) (if cells.any (fun c => !hasC row c) = true then (3, 0, []) else (0, 0, [pickL row cells])) := by
  intro d
  induction d with
  | zero =>
    intro j hd hg
    rw [List.take_of_length_le (by omega)] at hg
    have hb : ¬ cells.any (fun c => !hasC row c) = true := by
      intro h
      obtain ⟨c, h1, h2⟩ := List.any_eq_true.mp h
      rw [hg c h1] at h2
      exact absurd h2 (by decide)
    refine Kit.Ev.up ?_
    simp only [impl_PickCells.l0]
    rw [if_neg hb]
    exact Kit.Ev.neg (by omega) (Kit.Ev.then (implPicked_ev row cells hn (hasC_of hb)) (Kit.Ev.const rfl))
  | succ d ih =>
    intro j hd hg
    have hj : j < cells.length := by omega
    refine Kit.Ev.up ?_
    simp only [impl_PickCells.l0, Kit.rd_at hj, impl_size_int64.f, implIn_eq, Option.bind_some]
    rw [w64n (n := cells.length) (by omega) (by omega), Kit.w64 (x := ((row.length : Nat) : Int) - 1) (by omega) (by omega)]
    refine Kit.Ev.pos (by omega) (Kit.Ev.pos (by omega) (Kit.Ev.pos (by omega) ?_))
    by_cases h : hasC row cells[j] = true
    · refine Kit.Ev.pos h (ih (j + 1) (by omega) (fun c hc => ?_))
      rw [List.take_add_one, List.getElem?_eq_getElem hj] at hc
      rcases List.mem_append.mp hc with h1 | h1
      · exact hg c h1
      · rw [List.mem_singleton.mp h1]; exact h
    · refine Kit.Ev.neg h (Kit.Ev.const ?_)
      have hb : cells.any (fun c => !hasC row c) = true := List.any_eq_true.mpr ⟨cells[j], List.getElem_mem hj, by simp only [Bool.not_eq_true] at h; rw [h]; rfl⟩
      rw [if_pos hb]
theorem implPick_ev (row cells : List Int) (hn : cells.length ≤ 1048576) (hr : row.length ≤ 1048576) : Ev (fun k => impl_PickCells.f k row cells) (pickF row cells) := by
  unfold impl_PickCells.f pickF
  refine Kit.Ev.then (implRow_ev row (by omega)) (Kit.Ev.ite2 (fun _ => ?_) (fun _ => Kit.Ev.const rfl))
  by_cases h : 4 < cells.length
  · rw [if_pos h]; exact Kit.Ev.pos (by omega) (Kit.Ev.const rfl)
  · rw [if_neg h]
    exact Kit.Ev.neg (by omega) (implPick_l0 row cells hn hr cells.length 0 (by omega) (by simp))
theorem FnExactPickCells : laws_FnExactPickCells.Pure := by
  intro l cs _ _ _ _
  unfold laws_FnExactPickCells.ok
  by_cases h1 : 1048576 < l.length
  · exact ⟨0, .inl h1⟩
  have n1 : l.length ≤ 1048576 := by omega
  by_cases h2 : 1048576 < cs.length
  · exact ⟨0, .inr (.inl ⟨n1, h2⟩)⟩
  have n2 : cs.length ≤ 1048576 := by omega
  obtain ⟨hp1, hp2⟩ := pickF_rows (row := l) n2
  have hc : cellsN (pickF l cs).2.2 ≤ 1048576 := by
    have gen : ∀ (L : List (List Int)), L.length ≤ 1 → (∀ r ∈ L, r.length ≤ 1048576) → cellsN L ≤ 1048576 := by
      intro L hL hr
      cases L with
      | nil => simp [cellsN]
      | cons r L2 =>
        cases L2 with
        | nil => have := hr r (List.mem_cons_self ..); simp [cellsN]; omega
        | cons s L3 => simp at hL
    exact gen _ hp1 hp2
  obtain ⟨k, e1, e2, e3, e4, e5, e6, e7, e8, e9, e10, e11⟩ := ((Late.of (toInt64S_ev l n1)).and ((Late.of (toInt64S_ev cs n2)).and ((Late.of (specPick_ev l cs n2 n1)).and ((Late.of (implPick_ev l cs n2 n1)).and ((Late.of (eqRows_refl (pickF l cs).1 (pickF l cs).2.1 (pickF l cs).2.2 (by omega) (fun r hr => by have := hp2 r hr; omega))).and ((Late.of (eqInt64S_refl l (by omega))).and ((Late.of (eqInt64S_refl cs (by omega))).and ((Late.of (markInt64S_ev l 1 (by omega) (by omega))).and ((Late.of (markInt64S_ev cs (1 + l.length) (by omega) (by omega))).and ((Late.of (markRows_ev (pickF l cs).1 (pickF l cs).2.1 (pickF l cs).2.2 1 (by omega) (by omega) (by omega))).and (Late.of (heldRows_ev (pickF l cs).1 (pickF l cs).2.1 (pickF l cs).2.2 1 (by omega) (by omega) (by omega))))))))))))).ex
  exact ⟨k, .inr (.inr ⟨_, _, _, _, _, _, _, _, _, e1, e2, e3, e4, e5, e6, e7, e8, e9, e10, e11, n1, n2, by omega, by omega, by omega⟩)⟩

end Go.Proofs.Ytljfhfkmbgkpoaa.Pure
