/- The law FnExactUnpackRows answers true for every text of bytes: program and reference read the same rows out of it, and what is handed out is shared with nothing. -/
import Derived.Test.YtljfhfkmbgkpoaaKit
import Derived.Test.YtljfhfkmbgkpoaaVFnExactUnpackRows
namespace Go.Proofs.Ytljfhfkmbgkpoaa.Pure
open Go.RowKit Go.Proofs.Ytljfhfkmbgkpoaa.PFnExactUnpackRows Go.Proofs.YtljfhfkmbgkpoaaW.PrintWords Go.Proofs.YtljfhfkmbgkpoaaW.PrintLast Go.Proofs.Ytljfhfkmbgkpoaa
set_option linter.unusedSimpArgs false
set_option linter.unusedVariables false

theorem w64n {i n : Nat} (h : i < n) (hn : n ≤ 9223372036854775807) : wrap64 ((i : Int) + 1) = ((i + 1 : Nat) : Int) := by
  rw [Kit.w64 (by omega) (by omega)]; rfl
theorem rd_drop {xs : List Int} {i : Nat} (h : i < xs.length) : xs.drop i = rd xs (i : Int) :: xs.drop (i + 1) := by
  rw [Kit.rd_at h]; exact List.drop_eq_getElem_cons h
theorem eqInt64S_l0 (xs ys : List Int) (hn : xs.length ≤ 9223372036854775807) (hl : xs.length = ys.length) : ∀ (d i : Nat), i + d = xs.length → Ev (fun k => laws_eqInt64S.l0 k xs ys (i : Int)) (decide (xs.drop i = ys.drop i)) := by
  intro d
  induction d with
  | zero =>
    intro i hd
    refine Kit.Ev.up ?_
    simp only [laws_eqInt64S.l0]
    refine Kit.Ev.neg (by omega) (Kit.Ev.const ?_)
    rw [List.drop_eq_nil_of_le (by omega), List.drop_eq_nil_of_le (by omega)]; simp
  | succ d ih =>
    intro i hd
    refine Kit.Ev.up ?_
    simp only [laws_eqInt64S.l0]
    refine Kit.Ev.pos (by omega) (Kit.Ev.pos (by omega) (Kit.Ev.pos (by omega) ?_))
    rw [rd_drop (xs := xs) (i := i) (by omega), rd_drop (xs := ys) (i := i) (by omega), w64n (n := xs.length) (by omega) hn]
    refine Kit.Ev.ite (fun h => ?_) (fun h => Kit.Ev.const ?_)
    · exact (ih (i + 1) (by omega)).eq (by rw [h]; simp)
    · simp [h]
theorem eqInt64S_ev (xs ys : List Int) (hn : xs.length ≤ 9223372036854775807) : Ev (fun k => laws_eqInt64S.f k xs ys) (decide (xs = ys)) := by
  unfold laws_eqInt64S.f
  refine Kit.Ev.ite (fun h => ?_) (fun h => Kit.Ev.const ?_)
  · exact (eqInt64S_l0 xs ys hn (by omega) xs.length 0 (by omega)).eq (by simp)
  · have : xs ≠ ys := fun e => h (by rw [e])
    simp [this]
theorem eqInt64S_refl (xs : List Int) (hn : xs.length ≤ 9223372036854775807) : Ev (fun k => laws_eqInt64S.f k xs xs) true := (eqInt64S_ev xs xs hn).eq (by simp)
theorem specIn_eq (a b c : Int) : spec_l1In.f a b c = some (decide (b ≤ a ∧ a ≤ c)) := by
  unfold spec_l1In.f
  by_cases h : a ≥ b
  · rw [if_pos h]; simp [show b ≤ a from h]
  · rw [if_neg h]; simp; intro h'; omega
theorem implIn_eq (a b c : Int) : impl_in.f a b c = some (decide (b ≤ a ∧ a ≤ c)) := by
  unfold impl_in.f
  by_cases h : a ≥ b
  · rw [if_pos h]; simp [show b ≤ a from h]
  · rw [if_neg h]; simp; intro h'; omega
def inC (x : Int) : Bool := decide (-1000000000 ≤ x ∧ x ≤ 1000000000)
def rowF (xs : List Int) : Int := if 4 < xs.length then 2 else if xs.all inC = true then 0 else 3
theorem specRow_l0 (xs : List Int) (hn : xs.length ≤ 9223372036854775807) : ∀ (d i : Nat), i + d = xs.length → Ev (fun k => spec_RowFault.l0 k xs (i : Int)) (if (xs.drop i).all inC = true then 0 else 3) := by
  intro d
  induction d with
  | zero =>
    intro i hd
    refine Kit.Ev.up ?_
    simp only [spec_RowFault.l0]
    refine Kit.Ev.neg (by omega) (Kit.Ev.const ?_)
    rw [List.drop_eq_nil_of_le (by omega)]; simp
  | succ d ih =>
    intro i hd
    refine Kit.Ev.up ?_
    simp only [spec_RowFault.l0]
    refine Kit.Ev.pos (by omega) (Kit.Ev.pos (by omega) ?_)
    rw [specIn_eq]
    simp only [Option.bind_some]
    rw [rd_drop (xs := xs) (i := i) (by omega), w64n (n := xs.length) (by omega) hn]
    by_cases h : inC (rd xs (i : Int)) = true
    · refine Kit.Ev.pos h ((ih (i + 1) (by omega)).eq ?_)
      simp [h]
    · refine Kit.Ev.neg h (Kit.Ev.const ?_)
      simp [h]
theorem specRow_ev (xs : List Int) (hn : xs.length ≤ 9223372036854775807) : Ev (fun k => spec_RowFault.f k xs) (rowF xs) := by
  unfold spec_RowFault.f
  refine Kit.Ev.ite (fun h => Kit.Ev.const ?_) (fun h => ?_)
  · simp [rowF, show 4 < xs.length by omega]
  · exact (specRow_l0 xs hn xs.length 0 (by omega)).eq (by simp [rowF, show ¬ 4 < xs.length by omega])
theorem implRow_l0 (xs : List Int) (hn : xs.length ≤ 9223372036854775807) : ∀ (d i : Nat), i + d = xs.length → Ev (fun k => impl_RowFault.l0 k xs (xs.length : Int) (i : Int)) (if (xs.drop i).all inC = true then 0 else 3) := by
  intro d
  induction d with
  | zero =>
    intro i hd
    refine Kit.Ev.up ?_
    simp only [impl_RowFault.l0]
    refine Kit.Ev.neg (by omega) (Kit.Ev.const ?_)
    rw [List.drop_eq_nil_of_le (by omega)]; simp
  | succ d ih =>
    intro i hd
    refine Kit.Ev.up ?_
    simp only [impl_RowFault.l0]
    refine Kit.Ev.pos (by omega) (Kit.Ev.pos (by omega) (Kit.Ev.pos (by omega) ?_))
    rw [implIn_eq]
    simp only [Option.bind_some]
    rw [rd_drop (xs := xs) (i := i) (by omega), w64n (n := xs.length) (by omega) hn]
    by_cases h : inC (rd xs (i : Int)) = true
    · refine Kit.Ev.pos h ((ih (i + 1) (by omega)).eq ?_)
      simp [h]
    · refine Kit.Ev.neg h (Kit.Ev.const ?_)
      simp [h]
theorem implRow_ev (xs : List Int) (hn : xs.length ≤ 9223372036854775807) : Ev (fun k => impl_RowFault.f k xs) (rowF xs) := by
  unfold impl_RowFault.f
  refine Kit.Ev.ite (fun h => Kit.Ev.const ?_) (fun h => ?_)
  · simp [rowF, show 4 < xs.length by omega]
  · exact (implRow_l0 xs hn xs.length 0 (by omega)).eq (by simp [rowF, show ¬ 4 < xs.length by omega])
def BytesOk (l : List Int) : Prop := l.length ≤ 1048576 ∧ ∀ x ∈ l, 0 ≤ x ∧ x ≤ 255
theorem wfu8 {x : Int} (h : (Lit.int .u8 x).wf = true) : 0 ≤ x ∧ x ≤ 255 := by
  simp only [Lit.wf, Bool.and_eq_true, decide_eq_true_eq] at h
  obtain ⟨h0, h1⟩ := h
  have e0 : IntKind.u8.min = 0 := by rfl
  have e1 : IntKind.u8.max = 255 := by rfl
  rw [e0] at h0
  rw [e1] at h1
  exact ⟨h0, h1⟩
theorem bytesOk_of {l : List Int} (h : l.length ≤ 1048576) (hw : ∀ x ∈ l, (Lit.int .u8 x).wf = true) : BytesOk l := ⟨h, fun x hx => wfu8 (hw x hx)⟩
theorem BytesOk.rd {l : List Int} (h : BytesOk l) (i : Int) : 0 ≤ rd l i ∧ rd l i ≤ 255 := by
  unfold Go.Proofs.YtljfhfkmbgkpoaaW.PrintWords.rd
  by_cases hi : i.toNat < l.length
  · rw [List.getD_eq_getElem?_getD, List.getElem?_eq_getElem hi]
    exact h.2 _ (List.getElem_mem hi)
  · rw [List.getD_eq_getElem?_getD, List.getElem?_eq_none (by omega)]
    simp
theorem tmod_in {x n : Int} (hx : 0 ≤ x) (hn : 1 ≤ n) : 0 ≤ Int.tmod x n ∧ Int.tmod x n < n := by
  rw [Int.tmod_eq_emod_of_nonneg hx]
  exact ⟨Int.emod_nonneg _ (by omega), Int.emod_lt_of_pos _ (by omega)⟩
theorem tdiv_in {x n : Int} (hx : 0 ≤ x) (hn : 1 ≤ n) : 0 ≤ Int.tdiv x n ∧ Int.tdiv x n ≤ x := by
  rw [Int.tdiv_eq_ediv_of_nonneg hx]
  exact ⟨Int.ediv_nonneg hx (by omega), Int.ediv_le_self _ hx⟩
theorem toByteS_l0 (xs : List Int) (hn : xs.length ≤ 9223372036854775807) : ∀ (d i : Nat) (ys : List Int), i + d = xs.length → ys.length = xs.length → (∀ j, j < i → ys[j]? = xs[j]?) → Ev (fun k => laws_toByteS.l0 k xs ys (i : Int)) xs := by
  intro d
  induction d with
  | zero =>
    intro i ys hd hl he
    refine Kit.Ev.up ?_
    simp only [laws_toByteS.l0]
    refine Kit.Ev.neg (by omega) (Kit.Ev.const ?_)
    congr 1
    apply List.ext_getElem?
    intro j
    by_cases hj : j < i
    · exact he j hj
    · rw [List.getElem?_eq_none (by omega), List.getElem?_eq_none (by omega)]
  | succ d ih =>
    intro i ys hd hl he
    refine Kit.Ev.up ?_
    simp only [laws_toByteS.l0]
    refine Kit.Ev.pos (by omega) (Kit.Ev.pos (by omega) (Kit.Ev.pos (by omega) ?_))
    rw [w64n (n := xs.length) (by omega) hn, Int.toNat_natCast]
    refine ih (i + 1) _ (by omega) (by simpa using hl) (fun j hj => ?_)
    rw [List.getElem?_set]
    by_cases e : i = j
    · subst e
      rw [if_pos rfl, if_pos (by omega), Kit.rd_at (by omega), List.getElem?_eq_getElem (by omega)]
    · rw [if_neg e]
      exact he j (by omega)
theorem toByteS_ev (xs : List Int) (hn : xs.length ≤ 1048576) : Ev (fun k => laws_toByteS.f k xs) xs := by
  unfold laws_toByteS.f
  refine Kit.Ev.pos (by omega) (Kit.Ev.pos (by omega) ?_)
  exact toByteS_l0 xs (by omega) xs.length 0 _ (by omega) (by simp) (fun j hj => by omega)
theorem eqByteS_l0 (xs ys : List Int) (hn : xs.length ≤ 9223372036854775807) (hl : xs.length = ys.length) : ∀ (d i : Nat), i + d = xs.length → Ev (fun k => laws_eqByteS.l0 k xs ys (i : Int)) (decide (xs.drop i = ys.drop i)) := by
  intro d
  induction d with
  | zero =>
    intro i hd
    refine Kit.Ev.up ?_
    simp only [laws_eqByteS.l0]
    refine Kit.Ev.neg (by omega) (Kit.Ev.const ?_)
    rw [List.drop_eq_nil_of_le (by omega), List.drop_eq_nil_of_le (by omega)]; simp
  | succ d ih =>
    intro i hd
    refine Kit.Ev.up ?_
    simp only [laws_eqByteS.l0]
    refine Kit.Ev.pos (by omega) (Kit.Ev.pos (by omega) (Kit.Ev.pos (by omega) ?_))
    rw [rd_drop (xs := xs) (i := i) (by omega), rd_drop (xs := ys) (i := i) (by omega), w64n (n := xs.length) (by omega) hn]
    refine Kit.Ev.ite (fun h => ?_) (fun h => Kit.Ev.const ?_)
    · exact (ih (i + 1) (by omega)).eq (by rw [h]; simp)
    · simp [h]
theorem eqByteS_ev (xs ys : List Int) (hn : xs.length ≤ 9223372036854775807) : Ev (fun k => laws_eqByteS.f k xs ys) (decide (xs = ys)) := by
  unfold laws_eqByteS.f
  refine Kit.Ev.ite (fun h => ?_) (fun h => Kit.Ev.const ?_)
  · exact (eqByteS_l0 xs ys hn (by omega) xs.length 0 (by omega)).eq (by simp)
  · have : xs ≠ ys := fun e => h (by rw [e])
    simp [this]
theorem eqByteS_refl (xs : List Int) (hn : xs.length ≤ 9223372036854775807) : Ev (fun k => laws_eqByteS.f k xs xs) true := (eqByteS_ev xs xs hn).eq (by simp)
/-- What a mark writes: count by count. -/
def seqF (f : Int → Int) (a : Int) : Nat → List Int
  | 0 => []
  | n + 1 => f a :: seqF f (a + 1) n
theorem seqF_len (f : Int → Int) : ∀ (n : Nat) (a : Int), (seqF f a n).length = n
  | 0, _ => rfl
  | n + 1, a => by simp only [seqF, List.length_cons, seqF_len f n]
theorem rd_mid (pre rest : List Int) (x : Int) : rd (pre ++ x :: rest) (pre.length : Int) = x := by
  rw [Kit.rd_nat, List.getD_eq_getElem?_getD, List.getElem?_append_right (Nat.le_refl _)]
  simp
theorem markInt64S_l0 : ∀ (rest pre : List Int) (a : Int), 0 ≤ a → a + rest.length ≤ 4611686018427387904 → pre.length + rest.length ≤ 4611686018427387904 → Ev (fun k => laws_markInt64S.l0 k (pre ++ rest) a (pre.length : Int)) (a + rest.length, pre ++ seqF (fun x => x) a rest.length)
  | [], pre, a, h0, h1, h2 => by
    refine Kit.Ev.up ?_
    simp only [laws_markInt64S.l0]
    exact Kit.Ev.neg (by simp) (Kit.Ev.const (by simp [seqF]))
  | x :: rest, pre, a, h0, h1, h2 => by
    simp only [List.length_cons] at h1 h2
    refine Kit.Ev.up ?_
    simp only [laws_markInt64S.l0]
    refine Kit.Ev.pos (by simp only [List.length_append, List.length_cons]; omega) (Kit.Ev.pos (by omega) ?_)
    have el : wrap64 ((pre.length : Int) + 1) = ((pre ++ [a]).length : Int) := by rw [Kit.w64 (by omega) (by omega)]; simp
    have es : (pre ++ x :: rest).set (pre.length : Int).toNat (a) = (pre ++ [a]) ++ rest := by simp
    rw [es, el, Kit.w64 (x := a + 1) (by omega) (by omega)]
    refine (markInt64S_l0 rest (pre ++ [a]) (a + 1) (by omega) (by omega) (by rw [List.length_append]; simp only [List.length_cons, List.length_nil]; omega)).eq ?_
    refine Prod.ext ?_ ?_
    · simp only [List.length_cons]; omega
    · simp only [List.length_cons, seqF, List.append_assoc, List.cons_append, List.nil_append]
theorem markInt64S_ev (l : List Int) (a : Int) (h0 : 0 ≤ a) (h1 : a + l.length ≤ 4611686018427387904) : Ev (fun k => laws_markInt64S.f k l a) (a + l.length, seqF (fun x => x) a l.length) := by
  unfold laws_markInt64S.f
  exact markInt64S_l0 l [] a h0 h1 (by simp only [List.length_nil]; omega)
theorem heldInt64S_l0 : ∀ (n : Nat) (pre : List Int) (a : Int), 0 ≤ a → a + n ≤ 4611686018427387904 → pre.length + n ≤ 4611686018427387904 → Ev (fun k => laws_heldInt64S.l0 k (pre ++ seqF (fun x => x) a n) a (pre.length : Int)) (a + n)
  | 0, pre, a, h0, h1, h2 => by
    refine Kit.Ev.up ?_
    simp only [laws_heldInt64S.l0, seqF]
    exact Kit.Ev.neg (by simp) (Kit.Ev.const (by simp))
  | n + 1, pre, a, h0, h1, h2 => by
    refine Kit.Ev.up ?_
    simp only [laws_heldInt64S.l0, seqF]
    refine Kit.Ev.pos (by simp only [List.length_append, List.length_cons]; omega) (Kit.Ev.pos (by omega) (Kit.Ev.pos (rd_mid _ _ _) ?_))
    have el : wrap64 ((pre.length : Int) + 1) = ((pre ++ [a]).length : Int) := by rw [Kit.w64 (by omega) (by omega)]; simp
    have es : pre ++ (a) :: seqF (fun x => x) (a + 1) n = (pre ++ [a]) ++ seqF (fun x => x) (a + 1) n := by simp
    rw [es, el, Kit.w64 (x := a + 1) (by omega) (by omega)]
    exact (heldInt64S_l0 n (pre ++ [a]) (a + 1) (by omega) (by omega) (by rw [List.length_append]; simp only [List.length_cons, List.length_nil]; omega)).eq (by omega)
theorem heldInt64S_ev (n : Nat) (a : Int) (h0 : 0 ≤ a) (h1 : a + n ≤ 4611686018427387904) : Ev (fun k => laws_heldInt64S.f k (seqF (fun x => x) a n) a) (a + n) := by
  unfold laws_heldInt64S.f
  exact heldInt64S_l0 n [] a h0 h1 (by simp only [List.length_nil]; omega)
theorem markByteS_l0 : ∀ (rest pre : List Int) (a : Int), 0 ≤ a → a + rest.length ≤ 4611686018427387904 → pre.length + rest.length ≤ 4611686018427387904 → Ev (fun k => laws_markByteS.l0 k (pre ++ rest) a (pre.length : Int)) (a + rest.length, pre ++ seqF (fun x => x % 256) a rest.length)
  | [], pre, a, h0, h1, h2 => by
    refine Kit.Ev.up ?_
    simp only [laws_markByteS.l0]
    exact Kit.Ev.neg (by simp) (Kit.Ev.const (by simp [seqF]))
  | x :: rest, pre, a, h0, h1, h2 => by
    simp only [List.length_cons] at h1 h2
    refine Kit.Ev.up ?_
    simp only [laws_markByteS.l0]
    refine Kit.Ev.pos (by simp only [List.length_append, List.length_cons]; omega) (Kit.Ev.pos (by omega) ?_)
    have el : wrap64 ((pre.length : Int) + 1) = ((pre ++ [a % 256]).length : Int) := by rw [Kit.w64 (by omega) (by omega)]; simp
    have es : (pre ++ x :: rest).set (pre.length : Int).toNat (a % 256) = (pre ++ [a % 256]) ++ rest := by simp
    rw [es, el, Kit.w64 (x := a + 1) (by omega) (by omega)]
    refine (markByteS_l0 rest (pre ++ [a % 256]) (a + 1) (by omega) (by omega) (by rw [List.length_append]; simp only [List.length_cons, List.length_nil]; omega)).eq ?_
    refine Prod.ext ?_ ?_
    · simp only [List.length_cons]; omega
    · simp only [List.length_cons, seqF, List.append_assoc, List.cons_append, List.nil_append]
theorem markByteS_ev (l : List Int) (a : Int) (h0 : 0 ≤ a) (h1 : a + l.length ≤ 4611686018427387904) : Ev (fun k => laws_markByteS.f k l a) (a + l.length, seqF (fun x => x % 256) a l.length) := by
  unfold laws_markByteS.f
  exact markByteS_l0 l [] a h0 h1 (by simp only [List.length_nil]; omega)
def cellsN : List (List Int) → Nat
  | [] => 0
  | r :: rs => r.length + cellsN rs
def seqSS (a : Int) : List (List Int) → List (List Int)
  | [] => []
  | r :: rs => seqF (fun x => x) a r.length :: seqSS (a + r.length) rs
theorem seqSS_len : ∀ (l : List (List Int)) (a : Int), (seqSS a l).length = l.length
  | [], _ => rfl
  | r :: rs, a => by simp only [seqSS, List.length_cons, seqSS_len rs]
theorem getD_mid (pre rest : List (List Int)) (x : List Int) : (pre ++ x :: rest).getD ((pre.length : Int)).toNat [] = x := by
  rw [Int.toNat_natCast, List.getD_eq_getElem?_getD, List.getElem?_append_right (Nat.le_refl _)]
  simp
theorem markSS_l0 : ∀ (rest pre : List (List Int)) (a : Int), 0 ≤ a → a + cellsN rest ≤ 4611686018427387904 → pre.length + rest.length ≤ 4611686018427387904 → Ev (fun k => laws_markInt64SS.l0 k (pre ++ rest) a (pre.length : Int)) (a + cellsN rest, pre ++ seqSS a rest)
  | [], pre, a, h0, h1, h2 => by
    refine Kit.Ev.up ?_
    simp only [laws_markInt64SS.l0]
    exact Kit.Ev.neg (by simp) (Kit.Ev.const (by simp [seqSS, cellsN]))
  | r :: rest, pre, a, h0, h1, h2 => by
    simp only [List.length_cons, cellsN] at h1 h2
    refine Kit.Ev.up ?_
    simp only [laws_markInt64SS.l0]
    rw [getD_mid]
    refine Kit.Ev.pos (by simp only [List.length_append, List.length_cons]; omega) (Kit.Ev.pos (by omega) (Kit.Ev.then (markInt64S_ev r a h0 (by omega)) ?_))
    simp only
    have el : wrap64 ((pre.length : Int) + 1) = ((pre ++ [seqF (fun x => x) a r.length]).length : Int) := by rw [Kit.w64 (by omega) (by omega)]; simp
    have es : (pre ++ r :: rest).set (pre.length : Int).toNat (seqF (fun x => x) a r.length) = (pre ++ [seqF (fun x => x) a r.length]) ++ rest := by simp
    rw [es, el]
    refine (markSS_l0 rest (pre ++ [seqF (fun x => x) a r.length]) (a + r.length) (by omega) (by omega) (by rw [List.length_append]; simp only [List.length_cons, List.length_nil]; omega)).eq ?_
    refine Prod.ext ?_ ?_
    · simp only [cellsN]; omega
    · simp only [seqSS, List.append_assoc, List.cons_append, List.nil_append]
theorem markSS_ev (l : List (List Int)) (a : Int) (h0 : 0 ≤ a) (h1 : a + cellsN l ≤ 4611686018427387904) (h2 : l.length ≤ 4611686018427387904) : Ev (fun k => laws_markInt64SS.f k l a) (a + cellsN l, seqSS a l) := by
  unfold laws_markInt64SS.f
  exact markSS_l0 l [] a h0 h1 (by simp only [List.length_nil]; omega)
theorem heldSS_l0 : ∀ (rest pre : List (List Int)) (a : Int), 0 ≤ a → a + cellsN rest ≤ 4611686018427387904 → pre.length + rest.length ≤ 4611686018427387904 → Ev (fun k => laws_heldInt64SS.l0 k (pre ++ seqSS a rest) a (pre.length : Int)) (a + cellsN rest)
  | [], pre, a, h0, h1, h2 => by
    refine Kit.Ev.up ?_
    simp only [laws_heldInt64SS.l0, seqSS]
    exact Kit.Ev.neg (by simp) (Kit.Ev.const (by simp [cellsN]))
  | r :: rest, pre, a, h0, h1, h2 => by
    simp only [List.length_cons, cellsN] at h1 h2
    refine Kit.Ev.up ?_
    simp only [laws_heldInt64SS.l0, seqSS, rd_L1]
    rw [getD_mid]
    refine Kit.Ev.pos (by simp only [List.length_append, List.length_cons]; omega) (Kit.Ev.pos (by omega) (Kit.Ev.then (heldInt64S_ev r.length a h0 (by omega)) (Kit.Ev.neg (by omega) ?_)))
    have el : wrap64 ((pre.length : Int) + 1) = ((pre ++ [seqF (fun x => x) a r.length]).length : Int) := by rw [Kit.w64 (by omega) (by omega)]; simp
    have es : pre ++ seqF (fun x => x) a r.length :: seqSS (a + r.length) rest = (pre ++ [seqF (fun x => x) a r.length]) ++ seqSS (a + r.length) rest := by simp
    rw [es, el]
    exact (heldSS_l0 rest (pre ++ [seqF (fun x => x) a r.length]) (a + r.length) (by omega) (by omega) (by rw [List.length_append]; simp only [List.length_cons, List.length_nil]; omega)).eq (by simp only [cellsN]; omega)
theorem heldSS_ev (l : List (List Int)) (a : Int) (h0 : 0 ≤ a) (h1 : a + cellsN l ≤ 4611686018427387904) (h2 : l.length ≤ 4611686018427387904) : Ev (fun k => laws_heldInt64SS.f k (seqSS a l) a) (a + cellsN l) := by
  unfold laws_heldInt64SS.f
  exact heldSS_l0 l [] a h0 h1 (by simp only [List.length_nil]; omega)
theorem heldRows_ev (x y : Int) (l : List (List Int)) (a : Int) (h0 : 0 ≤ a) (h1 : a + cellsN l ≤ 4611686018427387904) (h2 : l.length ≤ 4611686018427387904) : Ev (fun k => laws_heldRowsResult.f k x y (seqSS a l) a) (a + cellsN l) := by
  unfold laws_heldRowsResult.f
  exact Kit.Ev.then (heldSS_ev l a h0 h1 h2) (Kit.Ev.neg (by omega) (Kit.Ev.const rfl))
theorem markRows_ev (x y : Int) (l : List (List Int)) (a : Int) (h0 : 0 ≤ a) (h1 : a + cellsN l ≤ 4611686018427387904) (h2 : l.length ≤ 4611686018427387904) : Ev (fun k => laws_markRowsResult.f k x y l a) (a + cellsN l, seqSS a l) := markSS_ev l a h0 h1 h2
theorem eqSS_refl (l : List (List Int)) (hn : l.length ≤ 9223372036854775807) (hr : ∀ r ∈ l, r.length ≤ 9223372036854775807) : Ev (fun k => laws_eqInt64SS.f k l l) true := by
  have L : ∀ (d i : Nat), i + d = l.length → Ev (fun k => laws_eqInt64SS.l0 k l l (i : Int)) true := by
    intro d
    induction d with
    | zero =>
      intro i hd
      refine Kit.Ev.up ?_
      simp only [laws_eqInt64SS.l0]
      exact Kit.Ev.neg (by omega) (Kit.Ev.const rfl)
    | succ d ih =>
      intro i hd
      refine Kit.Ev.up ?_
      simp only [laws_eqInt64SS.l0]
      have hm : rd_L1 l (i : Int) ∈ l := by
        have hi : i < l.length := by omega
        simp only [rd_L1, Int.toNat_natCast, List.getD_eq_getElem?_getD, List.getElem?_eq_getElem hi, Option.getD_some]
        exact List.getElem_mem hi
      refine Kit.Ev.pos (by omega) (Kit.Ev.pos (by omega) (Kit.Ev.pos (by omega) (Kit.Ev.then (eqInt64S_refl _ (hr _ hm)) (Kit.Ev.pos rfl ?_))))
      rw [w64n (n := l.length) (by omega) hn]
      exact ih (i + 1) (by omega)
  unfold laws_eqInt64SS.f
  exact Kit.Ev.pos rfl (L l.length 0 (by omega))
theorem eqRows_refl (x y : Int) (l : List (List Int)) (hn : l.length ≤ 9223372036854775807) (hr : ∀ r ∈ l, r.length ≤ 9223372036854775807) : Ev (fun k => laws_eqRowsResult.f k x y l x y l) true := by
  unfold laws_eqRowsResult.f
  exact Kit.Ev.pos rfl (Kit.Ev.pos rfl (Kit.Ev.then (eqSS_refl l hn hr) (Kit.Ev.pos rfl (Kit.Ev.const rfl))))
/-- Several answers, and one number of rounds for all. -/
theorem evs_both {α β : Type} {g : Nat → Option α} {h : Nat → Option β} {r : α} {s : β} (a : Ev g r) (b : Ev h s) : ∃ K, ∀ k, K ≤ k → g k = some r ∧ h k = some s := by
  obtain ⟨K, a⟩ := a
  obtain ⟨K', b⟩ := b
  exact ⟨max K K', fun k hk => ⟨a k (by omega), b k (by omega)⟩⟩
def Late (p : Nat → Prop) : Prop := ∃ K, ∀ k, K ≤ k → p k
theorem Late.of {α : Type} {g : Nat → Option α} {r : α} (h : Ev g r) : Late (fun k => g k = some r) := h
theorem Late.and {p q : Nat → Prop} (a : Late p) (b : Late q) : Late (fun k => p k ∧ q k) := by
  obtain ⟨K, a⟩ := a
  obtain ⟨K', b⟩ := b
  exact ⟨max K K', fun k hk => ⟨a k (by omega), b k (by omega)⟩⟩
theorem Late.ex {p : Nat → Prop} (a : Late p) : ∃ k, p k := by
  obtain ⟨K, a⟩ := a
  exact ⟨K, a K (Nat.le_refl _)⟩
def cellB (c : Int) : List Int := [((c + 549755813888) / 4294967296) % 256, ((c + 549755813888) / 16777216) % 256, ((c + 549755813888) / 65536) % 256, ((c + 549755813888) / 256) % 256, (c + 549755813888) % 256]
def packR (r : List Int) : List Int := ((r.length : Int) % 256) :: r.flatMap cellB
def packG : List Int → List (List Int) → Int × List Int
  | out, [] => (0, out)
  | out, r :: rs => if rowF r = 0 then packG (out ++ packR r) rs else (rowF r, [])
def packV (rows : List (List Int)) : Int × List Int := if 60 < rows.length then (2, []) else packG [] rows
theorem rowF_zero {r : List Int} (h : rowF r = 0) : r.length ≤ 4 ∧ ∀ x ∈ r, -1000000000 ≤ x ∧ x ≤ 1000000000 := by
  unfold rowF at h
  by_cases h1 : 4 < r.length
  · rw [if_pos h1] at h; omega
  · rw [if_neg h1] at h
    by_cases h2 : r.all inC = true
    · refine ⟨by omega, fun x hx => ?_⟩
      have := List.all_eq_true.mp h2 x hx
      simpa [inC] using this
    · rw [if_neg h2] at h; omega
theorem cells_len : ∀ r : List Int, (r.flatMap cellB).length = 5 * r.length
  | [] => rfl
  | x :: r => by rw [List.flatMap_cons, List.length_append, cells_len r]; simp only [cellB, List.length_cons, List.length_nil]; omega
theorem packR_len (r : List Int) : (packR r).length = 1 + 5 * r.length := by simp only [packR, List.length_cons, cells_len]; omega
theorem rd2_drop {xs : List (List Int)} {i : Nat} (h : i < xs.length) : xs.drop i = rd_L1 xs (i : Int) :: xs.drop (i + 1) := by
  rw [List.drop_eq_getElem_cons h]
  simp [rd_L1, List.getD_eq_getElem?_getD, List.getElem?_eq_getElem h]
theorem rd2_mem {xs : List (List Int)} {i : Nat} (h : i < xs.length) : rd_L1 xs (i : Int) ∈ xs := by
  simp only [rd_L1, Int.toNat_natCast, List.getD_eq_getElem?_getD, List.getElem?_eq_getElem h, Option.getD_some]
  exact List.getElem_mem h
theorem rd_mem {xs : List Int} {i : Nat} (h : i < xs.length) : rd xs (i : Int) ∈ xs := by
  rw [Kit.rd_at h]; exact List.getElem_mem h
def cellV (a b c d e : Int) : Int := (((a * 256 + b) * 256 + c) * 256 + d) * 256 + e - 549755813888
def cells : Nat → List Int → List Int
  | 0, _ => []
  | n + 1, l => cellV (rd l 0) (rd l 1) (rd l 2) (rd l 3) (rd l 4) :: cells n (l.drop 5)
def rowOk (b : Int) (rest : List Int) : Prop := b ≤ 4 ∧ 5 * b ≤ (rest.length : Int) ∧ rowF (cells b.toNat rest) = 0
instance (b : Int) (rest : List Int) : Decidable (rowOk b rest) := by unfold rowOk; infer_instance
def unG : Nat → Int → List (List Int) → List Int → Int × Int × List (List Int)
  | 0, _, rows, _ => (0, 0, rows)
  | _ + 1, _, rows, [] => (0, 0, rows)
  | n + 1, at_, rows, b :: rest =>
    if rowOk b rest ∧ rows.length ≠ 60 then unG n (at_ + 1 + 5 * b) (rows ++ [cells b.toNat rest]) (rest.drop (5 * b.toNat)) else (5, at_, [])
def unV (data : List Int) : Int × Int × List (List Int) := unG (data.length + 1) 0 [] data
theorem cells_length : ∀ (n : Nat) (l : List Int), (cells n l).length = n
  | 0, _ => rfl
  | n + 1, l => by simp only [cells, List.length_cons, cells_length n]
theorem cells_snoc : ∀ (n : Nat) (l : List Int), cells (n + 1) l = cells n l ++ [cellV (rd (l.drop (5 * n)) 0) (rd (l.drop (5 * n)) 1) (rd (l.drop (5 * n)) 2) (rd (l.drop (5 * n)) 3) (rd (l.drop (5 * n)) 4)]
  | 0, l => by simp [cells]
  | n + 1, l => by
    rw [cells, cells_snoc n (l.drop 5), cells, List.cons_append, List.drop_drop]
    rw [show 5 + 5 * n = 5 * (n + 1) by omega]
theorem rd_dropi (l : List Int) (m i : Nat) : rd (l.drop m) (i : Int) = rd l ((m + i : Nat) : Int) := by
  rw [Kit.rd_nat, Kit.rd_nat, List.getD_eq_getElem?_getD, List.getD_eq_getElem?_getD, List.getElem?_drop]
theorem cellV_B {c : Int} (h0 : -1000000000 ≤ c) (h1 : c ≤ 1000000000) : cellV (((c + 549755813888) / 4294967296) % 256) (((c + 549755813888) / 16777216) % 256) (((c + 549755813888) / 65536) % 256) (((c + 549755813888) / 256) % 256) ((c + 549755813888) % 256) = c := by
  unfold cellV
  omega
theorem cells_pack : ∀ (r rest : List Int), (∀ x ∈ r, -1000000000 ≤ x ∧ x ≤ 1000000000) → cells r.length (r.flatMap cellB ++ rest) = r
  | [], _, _ => rfl
  | c :: r, rest, h => by
    have hc := h c (by simp)
    simp only [List.length_cons, cells, List.flatMap_cons, cellB, List.cons_append, List.nil_append, List.append_assoc, List.drop_succ_cons, List.drop_zero]
    rw [cells_pack r rest (fun x hx => h x (by simp [hx]))]
    congr 1
    exact cellV_B hc.1 hc.2
theorem unG_pack : ∀ (rs : List (List Int)) (n : Nat) (at_ : Int) (acc : List (List Int)), (∀ r ∈ rs, rowF r = 0) → acc.length + rs.length ≤ 60 → rs.length < n → unG n at_ acc (rs.flatMap packR) = (0, 0, acc ++ rs)
  | [], n, at_, acc, _, _, hn => by
    obtain ⟨m, rfl⟩ : ∃ m, n = m + 1 := ⟨n - 1, by simp at hn; omega⟩
    simp [unG]
  | r :: rs, n, at_, acc, h, ha, hn => by
    obtain ⟨m, rfl⟩ : ∃ m, n = m + 1 := ⟨n - 1, by simp at hn; omega⟩
    have hr := h r (by simp)
    have hz := rowF_zero hr
    have hb : ((r.length : Int) % 256) = (r.length : Int) := by omega
    simp only [List.length_cons] at ha hn
    simp only [List.flatMap_cons, packR, List.cons_append, unG, hb]
    have hc : cells (r.length : Int).toNat (r.flatMap cellB ++ rs.flatMap packR) = r := by
      rw [Int.toNat_natCast]; exact cells_pack r _ hz.2
    have hok : rowOk (r.length : Int) (r.flatMap cellB ++ rs.flatMap packR) := by
      refine ⟨by omega, ?_, by rw [hc]; exact hr⟩
      rw [List.length_append, cells_len]; omega
    rw [if_pos ⟨hok, by omega⟩, hc]
    have hd : (r.flatMap cellB ++ rs.flatMap packR).drop (5 * (r.length : Int).toNat) = rs.flatMap packR := by
      rw [Int.toNat_natCast, List.drop_append_of_le_length (by rw [cells_len]; omega), List.drop_eq_nil_of_le (by rw [cells_len]; omega), List.nil_append]
    rw [hd, unG_pack rs m _ (acc ++ [r]) (fun x hx => h x (by simp [hx])) (by simp; omega) (by omega)]
    simp
theorem packG_zero : ∀ (rs : List (List Int)) (out : List Int), (packG out rs).1 = 0 → (∀ r ∈ rs, rowF r = 0) ∧ packG out rs = (0, out ++ rs.flatMap packR)
  | [], out, _ => ⟨by simp, by simp [packG]⟩
  | r :: rs, out, h => by
    simp only [packG] at h ⊢
    by_cases hr : rowF r = 0
    · rw [if_pos hr] at h ⊢
      obtain ⟨h1, h2⟩ := packG_zero rs _ h
      refine ⟨fun x hx => ?_, by rw [h2]; simp⟩
      rcases List.mem_cons.mp hx with rfl | hx
      · exact hr
      · exact h1 x hx
    · rw [if_neg hr] at h
      exact absurd h hr
theorem packG_of : ∀ (rs : List (List Int)) (out : List Int), (∀ r ∈ rs, rowF r = 0) → packG out rs = (0, out ++ rs.flatMap packR)
  | [], out, _ => by simp [packG]
  | r :: rs, out, h => by
    simp only [packG]
    rw [if_pos (h r (by simp)), packG_of rs _ (fun x hx => h x (by simp [hx]))]
    simp
theorem flat_len : ∀ rs : List (List Int), rs.length ≤ (rs.flatMap packR).length
  | [] => Nat.le_refl _
  | r :: rs => by rw [List.flatMap_cons, List.length_append, packR_len, List.length_cons]; have := flat_len rs; omega
/-- What is packed is read back. -/
theorem un_pack {rows : List (List Int)} (h : (packV rows).1 = 0) : unV (packV rows).2 = (0, 0, rows) := by
  unfold packV at h ⊢
  by_cases h1 : 60 < rows.length
  · rw [if_pos h1] at h; exact absurd h (by decide +kernel)
  · rw [if_neg h1] at h ⊢
    obtain ⟨a, b⟩ := packG_zero rows [] h
    rw [b]
    simp only [List.nil_append, unV]
    rw [unG_pack rows _ 0 [] a (by simp; omega) (by have := flat_len rows; omega)]
    simp
theorem cells_back : ∀ (n : Nat) (l : List Int), 5 * n ≤ l.length → (∀ x ∈ l, 0 ≤ x ∧ x ≤ 255) → (cells n l).flatMap cellB = l.take (5 * n)
  | 0, l, _, _ => by simp [cells]
  | n + 1, l, h, hb => by
    obtain ⟨a, b, c, d, e, l', rfl⟩ : ∃ a b c d e l', l = a :: b :: c :: d :: e :: l' := by
      match l, h with
      | a :: b :: c :: d :: e :: l', _ => exact ⟨a, b, c, d, e, l', rfl⟩
      | [], h => simp at h
      | [_], h => simp at h; omega
      | [_, _], h => simp at h; omega
      | [_, _, _], h => simp at h; omega
      | [_, _, _, _], h => simp at h; omega
    have ha := hb a (by simp); have hb' := hb b (by simp); have hc := hb c (by simp); have hd := hb d (by simp); have he := hb e (by simp)
    simp only [cells, List.flatMap_cons, List.drop_succ_cons, List.drop_zero]
    rw [cells_back n l' (by simp only [List.length_cons] at h; omega) (fun x hx => hb x (by simp [hx]))]
    rw [show 5 * (n + 1) = 5 * n + 1 + 1 + 1 + 1 + 1 by omega]
    simp only [List.take_succ_cons, cellB]
    have r0 : rd (a :: b :: c :: d :: e :: l') 0 = a := rfl
    have r1 : rd (a :: b :: c :: d :: e :: l') 1 = b := rfl
    have r2 : rd (a :: b :: c :: d :: e :: l') 2 = c := rfl
    have r3 : rd (a :: b :: c :: d :: e :: l') 3 = d := rfl
    have r4 : rd (a :: b :: c :: d :: e :: l') 4 = e := rfl
    rw [r0, r1, r2, r3, r4]
    have v : cellV a b c d e + 549755813888 = (((a * 256 + b) * 256 + c) * 256 + d) * 256 + e := by unfold cellV; omega
    rw [v]
    have q0 : ((((a * 256 + b) * 256 + c) * 256 + d) * 256 + e) / 4294967296 % 256 = a := by omega
    have q1 : ((((a * 256 + b) * 256 + c) * 256 + d) * 256 + e) / 16777216 % 256 = b := by omega
    have q2 : ((((a * 256 + b) * 256 + c) * 256 + d) * 256 + e) / 65536 % 256 = c := by omega
    have q3 : ((((a * 256 + b) * 256 + c) * 256 + d) * 256 + e) / 256 % 256 = d := by omega
    have q4 : ((((a * 256 + b) * 256 + c) * 256 + d) * 256 + e) % 256 = e := by omega
    rw [q0, q1, q2, q3, q4]
    rfl
theorem unG_back : ∀ (n : Nat) (at_ : Int) (acc : List (List Int)) (l : List Int), l.length < n → (∀ x ∈ l, 0 ≤ x ∧ x ≤ 255) → (∀ r ∈ acc, rowF r = 0) → acc.length ≤ 60 → (unG n at_ acc l).1 = 0 →
    (∀ r ∈ (unG n at_ acc l).2.2, rowF r = 0) ∧ (unG n at_ acc l).2.2.length ≤ 60 ∧ (unG n at_ acc l).2.2.flatMap packR = acc.flatMap packR ++ l
  | 0, _, _, _, h, _, _, _, _ => by omega
  | n + 1, at_, acc, [], _, _, ha, h60, _ => ⟨ha, h60, by simp [unG]⟩
  | n + 1, at_, acc, b :: rest, hl, hb, ha, h60, h => by
    simp only [unG] at h ⊢
    by_cases hc : rowOk b rest ∧ acc.length ≠ 60
    · rw [if_pos hc] at h ⊢
      obtain ⟨⟨h4, h5, hr⟩, hne⟩ := hc
      have hb0 := hb b (by simp)
      have hrest : ∀ x ∈ rest, 0 ≤ x ∧ x ≤ 255 := fun x hx => hb x (by simp [hx])
      simp only [List.length_cons] at hl
      obtain ⟨i1, i2, i3⟩ := unG_back n _ _ (rest.drop (5 * b.toNat)) (by rw [List.length_drop]; omega) (fun x hx => hrest x (List.mem_of_mem_drop hx)) (by
        intro r hr'
        rcases List.mem_append.mp hr' with h' | h'
        · exact ha r h'
        · rw [List.mem_singleton] at h'; rw [h']; exact hr) (by rw [List.length_append]; simp only [List.length_cons, List.length_nil]; omega) h
      refine ⟨i1, i2, ?_⟩
      rw [i3]
      simp only [List.flatMap_append, List.flatMap_cons, List.flatMap_nil, List.append_nil, packR, cells_length, List.append_assoc, List.cons_append]
      rw [cells_back _ _ (by omega) hrest, List.take_append_drop]
      congr 2
      omega
    · rw [if_neg hc] at h
      simp at h
/-- What is read is packed to the bytes it was read from. -/
theorem pack_un {l : List Int} (hb : ∀ x ∈ l, 0 ≤ x ∧ x ≤ 255) (h : (unV l).1 = 0) : packV (unV l).2.2 = (0, l) := by
  obtain ⟨h1, h2, h3⟩ := unG_back (l.length + 1) 0 [] l (by omega) hb (by simp) (by simp) h
  unfold packV
  have e : (unV l) = unG (l.length + 1) 0 [] l := rfl
  rw [e, if_neg (by omega), packG_of _ _ h1, h3]
  simp
theorem unG_bad : ∀ (n : Nat) (at_ : Int) (acc : List (List Int)) (l : List Int), (unG n at_ acc l).1 ≠ 0 → (unG n at_ acc l).2.2 = []
  | 0, _, _, _, h => absurd rfl h
  | n + 1, _, _, [], h => absurd rfl h
  | n + 1, at_, acc, b :: rest, h => by
    simp only [unG] at h ⊢
    by_cases hc : rowOk b rest ∧ acc.length ≠ 60
    · rw [if_pos hc] at h ⊢; exact unG_bad n _ _ _ h
    · rw [if_neg hc]
theorem un_bad {l : List Int} (h : ¬ (unV l).1 = 0) : (unV l).2.2 = [] := unG_bad _ _ _ _ h
theorem rows_cells : ∀ {l : List (List Int)}, (∀ r ∈ l, rowF r = 0) → cellsN l ≤ 4 * l.length
  | [], _ => Nat.le_refl _
  | r :: rs, h => by
    have := (rowF_zero (h r (by simp))).1
    have := rows_cells (l := rs) (fun x hx => h x (by simp [hx]))
    simp only [cellsN, List.length_cons]; omega
theorem or_add {y a : Int} (h0 : 0 ≤ y) (h1 : y < 1099511627776) (ha : 0 ≤ a) (ha' : a ≤ 255) : Go.bits .or .i64 (y * 256) a = y * 256 + a := by
  obtain ⟨m, rfl⟩ := Int.eq_ofNat_of_zero_le h0
  obtain ⟨b, rfl⟩ := Int.eq_ofNat_of_zero_le ha
  unfold Go.bits
  simp only [BitVec.toNat_or, BitVec.toNat_ofInt]
  have hk : (IntKind.i64).bits = 64 := rfl
  rw [hk]
  have e1 : (((m : Int) * 256) % ((2 : Nat) ^ 64 : Nat)).toNat = m <<< 8 := by
    rw [Nat.shiftLeft_eq]; omega
  have e2 : ((b : Int) % ((2 : Nat) ^ 64 : Nat)).toNat = b := by omega
  rw [e1, e2, ← Nat.shiftLeft_add_eq_or_of_lt (by omega : b < 2 ^ 8), Nat.shiftLeft_eq]
  have : IntKind.i64.wrap (((m * 2 ^ 8 + b : Nat)) : Int) = ((m * 2 ^ 8 + b : Nat) : Int) := by
    have e : IntKind.i64.wrap (((m * 2 ^ 8 + b : Nat)) : Int) = wrap64 (((m * 2 ^ 8 + b : Nat)) : Int) := i64_w _
    rw [e, Kit.w64 (by omega) (by omega)]
  rw [this]
  omega
theorem or_step {y z B : Int} (hy : 0 ≤ y ∧ y < B) (hz : 0 ≤ z ∧ z ≤ 255) (hB : B ≤ 1099511627776) : Go.bits .or .i64 (wrap64 (y * 256)) (wrap64 z) = y * 256 + z ∧ (0 ≤ y * 256 + z ∧ y * 256 + z < B * 256) := by
  rw [Kit.w64 (x := y * 256) (by omega) (by omega), Kit.w64 (x := z) (by omega) (by omega), or_add hy.1 (by omega) hz.1 hz.2]
  exact ⟨rfl, by omega, by omega⟩
theorem acc_step {y z B : Int} (hy : 0 ≤ y ∧ y < B) (hz : 0 ≤ z ∧ z ≤ 255) (hB : B ≤ 1099511627776) : wrap64 (wrap64 (y * 256) + wrap64 z) = y * 256 + z ∧ (0 ≤ y * 256 + z ∧ y * 256 + z < B * 256) := by
  rw [Kit.w64 (x := y * 256) (by omega) (by omega), Kit.w64 (x := z) (by omega) (by omega), Kit.w64 (by omega) (by omega)]
  exact ⟨rfl, by omega, by omega⟩
theorem last_step {y : Int} (hy : 0 ≤ y ∧ y < 1 * 256 * 256 * 256 * 256 * 256) : wrap64 (y - 549755813888) = y - 549755813888 := Kit.w64 (by omega) (by omega)
theorem five {l : List Int} {m : Nat} (h : m + 5 ≤ l.length) : (l.take (m + 5)).drop m = [rd (l.drop m) 0, rd (l.drop m) 1, rd (l.drop m) 2, rd (l.drop m) 3, rd (l.drop m) 4] := by
  rw [List.drop_take, show m + 5 - m = 5 by omega]
  have hl : 5 ≤ (l.drop m).length := by rw [List.length_drop]; omega
  generalize l.drop m = q at hl
  match q, hl with
  | a :: b :: c :: d :: e :: l', _ => rfl
  | [], h => simp at h
  | [_], h => simp at h
  | [_, _], h => simp at h
  | [_, _, _], h => simp at h
  | [_, _, _, _], h => simp at h
theorem readRow_l1 (l acc : List Int) (x5 x6 a b c d e : Int) (hacc : acc.length ≤ 100) (ha : 0 ≤ a ∧ a ≤ 255) (hb : 0 ≤ b ∧ b ≤ 255) (hc : 0 ≤ c ∧ c ≤ 255) (hd : 0 ≤ d ∧ d ≤ 255) (he : 0 ≤ e ∧ e ≤ 255) {r : List Int × Int}
    (H : Ev (fun k => impl_readRow.l0 k l (acc ++ [cellV a b c d e]) x5 (wrap64 (x6 + 5))) r) :
    Ev (fun k => impl_readRow.l1 k l acc x5 x6 0 [a, b, c, d, e] 5 0) r := by
  have w1 : wrap64 (0 + 1) = 1 := by decide +kernel
  have w2 : wrap64 (1 + 1) = 2 := by decide +kernel
  have w3 : wrap64 (2 + 1) = 3 := by decide +kernel
  have w4 : wrap64 (3 + 1) = 4 := by decide +kernel
  have w5 : wrap64 (4 + 1) = 5 := by decide +kernel
  have r0 : rd [a, b, c, d, e] 0 = a := rfl
  have r1 : rd [a, b, c, d, e] 1 = b := rfl
  have r2 : rd [a, b, c, d, e] 2 = c := rfl
  have r3 : rd [a, b, c, d, e] 3 = d := rfl
  have r4 : rd [a, b, c, d, e] 4 = e := rfl
  have q1 := or_step (y := 0) (z := a) (B := 1) (by decide) ha (by decide)
  have q2 := or_step q1.2 hb (by decide)
  have q3 := or_step q2.2 hc (by decide)
  have q4 := or_step q3.2 hd (by decide)
  have q5 := or_step q4.2 he (by decide)
  have hlen : (([a, b, c, d, e] : List Int).length : Int) = 5 := rfl
  refine Kit.Ev.up ?_
  simp only [impl_readRow.l1, hlen]
  refine Kit.Ev.pos (by decide +kernel) (Kit.Ev.pos (by decide +kernel) (Kit.Ev.pos (by decide +kernel) ?_))
  rw [w1, r0, q1.1]
  refine Kit.Ev.up ?_
  simp only [impl_readRow.l1, hlen]
  refine Kit.Ev.pos (by decide +kernel) (Kit.Ev.pos (by decide +kernel) (Kit.Ev.pos (by decide +kernel) ?_))
  rw [w2, r1, q2.1]
  refine Kit.Ev.up ?_
  simp only [impl_readRow.l1, hlen]
  refine Kit.Ev.pos (by decide +kernel) (Kit.Ev.pos (by decide +kernel) (Kit.Ev.pos (by decide +kernel) ?_))
  rw [w3, r2, q3.1]
  refine Kit.Ev.up ?_
  simp only [impl_readRow.l1, hlen]
  refine Kit.Ev.pos (by decide +kernel) (Kit.Ev.pos (by decide +kernel) (Kit.Ev.pos (by decide +kernel) ?_))
  rw [w4, r3, q4.1]
  refine Kit.Ev.up ?_
  simp only [impl_readRow.l1, hlen]
  refine Kit.Ev.pos (by decide +kernel) (Kit.Ev.pos (by decide +kernel) (Kit.Ev.pos (by decide +kernel) ?_))
  rw [w5, r4, q5.1]
  refine Kit.Ev.up ?_
  simp only [impl_readRow.l1, hlen]
  refine Kit.Ev.neg (by decide +kernel) (Kit.Ev.pos (by omega) ?_)
  have hv : wrap64 (((((0 * 256 + a) * 256 + b) * 256 + c) * 256 + d) * 256 + e - 549755813888) = cellV a b c d e := by
    rw [last_step q5.2]; unfold cellV; rw [Int.zero_mul, Int.zero_add]
  rw [hv]
  exact H
theorem readRow_l0 (l : List Int) (hb : ∀ i : Int, 0 ≤ rd l i ∧ rd l i ≤ 255) (n : Nat) (h4 : n ≤ 4) (hl : 1 + 5 * n ≤ l.length) : ∀ (d j : Nat), j + d = n →
    Ev (fun k => impl_readRow.l0 k l (cells j (l.drop 1)) ((1 + 5 * n : Nat) : Int) ((1 + 5 * j : Nat) : Int)) (if rowF (cells n (l.drop 1)) = 0 then (cells n (l.drop 1), ((1 + 5 * n : Nat) : Int)) else ([], 0)) := by
  intro d
  induction d with
  | zero =>
    intro j hd
    obtain rfl : j = n := by omega
    refine Kit.Ev.up ?_
    simp only [impl_readRow.l0]
    refine Kit.Ev.neg (by omega) (Kit.Ev.then (implRow_ev _ (by rw [cells_length]; omega)) ?_)
    by_cases h : rowF (cells j (l.drop 1)) = 0
    · exact Kit.Ev.pos h (Kit.Ev.const (by rw [if_pos h]))
    · exact Kit.Ev.neg h (Kit.Ev.const (by rw [if_neg h]))
  | succ d ih =>
    intro j hd
    refine Kit.Ev.up ?_
    simp only [impl_readRow.l0]
    have e5 : wrap64 (((1 + 5 * j : Nat) : Int) + 5) = ((1 + 5 * j + 5 : Nat) : Int) := by rw [Kit.w64 (by omega) (by omega)]; omega
    rw [e5]
    refine Kit.Ev.pos (by omega) (Kit.Ev.pos (by omega) (Kit.Ev.pos (by omega) (Kit.Ev.pos (by omega) ?_)))
    simp only [Int.toNat_natCast]
    rw [five (by omega)]
    have q : ∀ i : Nat, rd (l.drop (1 + 5 * j)) (i : Int) = rd l ((1 + 5 * j + i : Nat) : Int) := fun i => rd_dropi _ _ _
    have qb : ∀ i : Nat, 0 ≤ rd (l.drop (1 + 5 * j)) (i : Int) ∧ rd (l.drop (1 + 5 * j)) (i : Int) ≤ 255 := fun i => by rw [q]; exact hb _
    refine readRow_l1 l _ _ _ _ _ _ _ _ (by rw [cells_length]; omega) (qb 0) (qb 1) (qb 2) (qb 3) (qb 4) ?_
    rw [e5]
    have := ih (j + 1) (by omega)
    rw [cells_snoc, List.drop_drop] at this
    exact this
theorem readRow_ev (b : Int) (rest : List Int) (hb : ∀ x ∈ b :: rest, 0 ≤ x ∧ x ≤ 255) : Ev (fun k => impl_readRow.f k (b :: rest)) (if rowOk b rest then (cells b.toNat rest, 1 + 5 * b) else ([], 0)) := by
  have b0 := hb b (by simp)
  have hrd : ∀ i : Int, 0 ≤ rd (b :: rest) i ∧ rd (b :: rest) i ≤ 255 := by
    intro i
    unfold Go.Proofs.YtljfhfkmbgkpoaaW.PrintWords.rd
    by_cases hi : i.toNat < (b :: rest).length
    · rw [List.getD_eq_getElem?_getD, List.getElem?_eq_getElem hi]; exact hb _ (List.getElem_mem hi)
    · rw [List.getD_eq_getElem?_getD, List.getElem?_eq_none (by omega)]; simp
  have r0 : rd (b :: rest) 0 = b := rfl
  unfold impl_readRow.f
  rw [r0]
  have hw : wrap64 b = b := Kit.w64 (by omega) (by omega)
  have hw2 : wrap64 (5 * b) = 5 * b := Kit.w64 (by omega) (by omega)
  have hw3 : wrap64 (1 + 5 * b) = 1 + 5 * b := Kit.w64 (by omega) (by omega)
  rw [hw, hw2, hw3]
  have bad : ∀ x, x = true → Ev (fun k => impl_readRow.j0 k (b :: rest) x) (([], 0) : List Int × Int) := by
    intro x hx; subst hx
    refine Kit.Ev.up ?_
    simp only [impl_readRow.j0]
    exact Kit.Ev.pos (by trivial) (Kit.Ev.const rfl)
  refine Kit.Ev.neg (by simp only [List.length_cons]; omega) (Kit.Ev.pos (by simp only [List.length_cons]; omega) ?_)
  by_cases h4 : b ≤ 4
  · refine Kit.Ev.neg (by omega) ?_
    by_cases h5 : 5 * b ≤ (rest.length : Int)
    · have hf : decide (((b :: rest).length : Int) < 1 + 5 * b) = false := by simp only [List.length_cons]; exact decide_eq_false (by omega)
      rw [hf]
      refine Kit.Ev.up ?_
      simp only [impl_readRow.j0]
      refine Kit.Ev.neg (by decide +kernel) (Kit.Ev.pos (by simp only [List.length_cons]; omega) ?_)
      rw [r0, hw, hw2, hw3]
      have H := readRow_l0 (b :: rest) hrd b.toNat (by omega) (by simp only [List.length_cons]; omega) b.toNat 0 (by omega)
      have e : ((1 + 5 * b.toNat : Nat) : Int) = 1 + 5 * b := by omega
      rw [e] at H
      refine H.eq ?_
      simp only [List.drop_succ_cons, List.drop_zero]
      by_cases h : rowF (cells b.toNat rest) = 0
      · rw [if_pos h, if_pos ⟨h4, h5, h⟩]
      · rw [if_neg h, if_neg (fun q => h q.2.2)]
    · rw [if_neg (fun q => h5 q.2.1)]
      exact bad _ (by simp only [List.length_cons]; exact decide_eq_true (by omega))
  · rw [if_neg (fun q => h4 q.1)]
    exact Kit.Ev.pos (by omega) (bad _ rfl)
theorem implUn_l0 (data : List Int) (hb : ∀ x ∈ data, 0 ≤ x ∧ x ≤ 255) (hn : data.length ≤ 1048576) : ∀ (n i : Nat) (acc : List (List Int)), i ≤ data.length → data.length - i < n → acc.length ≤ 60 →
    Ev (fun k => impl_UnpackRows.l0 k data acc (i : Int)) (unG n (i : Int) acc (data.drop i)) := by
  intro n
  induction n with
  | zero => intro i acc _ h _; omega
  | succ n ih =>
    intro i acc hi hl ha
    refine Kit.Ev.up ?_
    simp only [impl_UnpackRows.l0]
    by_cases he : i < data.length
    · rw [rd_drop (xs := data) (i := i) he]
      simp only [unG]
      refine Kit.Ev.pos (by omega) (Kit.Ev.pos (by omega) (Kit.Ev.pos (by omega) ?_))
      simp only [Int.toNat_natCast]
      have hd : data.drop i = rd data (i : Int) :: data.drop (i + 1) := rd_drop (xs := data) (i := i) he
      have R := readRow_ev (rd data (i : Int)) (data.drop (i + 1)) (by rw [← hd]; exact fun x hx => hb x (List.mem_of_mem_drop hx))
      rw [← hd] at R
      have b0 := hb _ (rd_mem (xs := data) (i := i) he)
      refine Kit.Ev.then R ?_
      by_cases hok : rowOk (rd data (i : Int)) (data.drop (i + 1))
      · rw [if_pos hok]
        simp only
        refine Kit.Ev.neg (by omega) ?_
        by_cases h60 : acc.length = 60
        · rw [if_neg (fun q => q.2 h60)]
          exact Kit.Ev.pos (by omega) (Kit.Ev.const rfl)
        · rw [if_pos ⟨hok, h60⟩]
          refine Kit.Ev.neg (by omega) (Kit.Ev.pos (by omega) ?_)
          have h5 := hok.2.1
          rw [List.length_drop] at h5
          have H := ih (i + 1 + 5 * (rd data (i : Int)).toNat) (acc ++ [cells (rd data (i : Int)).toNat (data.drop (i + 1))]) (by omega) (by omega) (by rw [List.length_append]; simp only [List.length_cons, List.length_nil]; omega)
          have e1 : wrap64 ((i : Int) + (1 + 5 * rd data (i : Int))) = ((i + 1 + 5 * (rd data (i : Int)).toNat : Nat) : Int) := by rw [Kit.w64 (by omega) (by omega)]; omega
          have e2 : (i : Int) + 1 + 5 * rd data (i : Int) = ((i + 1 + 5 * (rd data (i : Int)).toNat : Nat) : Int) := by omega
          rw [e1, e2, List.drop_drop]
          exact H
      · rw [if_neg hok, if_neg (fun q => hok q.1)]
        exact Kit.Ev.pos rfl (Kit.Ev.const rfl)
    · have e0 : data.drop i = [] := List.drop_eq_nil_of_le (by omega)
      rw [e0]
      exact Kit.Ev.neg (by omega) (Kit.Ev.const rfl)
theorem implUn_ev (data : List Int) (hb : ∀ x ∈ data, 0 ≤ x ∧ x ≤ 255) (hn : data.length ≤ 1048576) : Ev (fun k => impl_UnpackRows.f k data) (unV data) := by
  unfold impl_UnpackRows.f
  exact implUn_l0 data hb hn (data.length + 1) 0 [] (by omega) (by omega) (by simp)
theorem in_five {m n : Nat} (h : m + 5 ≤ n) (i : Nat) (hi : i < 5) : 0 ≤ ((m + i : Nat) : Int) ∧ ((m + i : Nat) : Int) < (n : Int) := ⟨by omega, by omega⟩
theorem w_five {m n : Nat} (h : m + 5 ≤ n) (hn : n ≤ 1048576) (i : Nat) (hi : i ≤ 5) : wrap64 ((m : Int) + (i : Int)) = ((m + i : Nat) : Int) := by
  rw [Kit.w64 (by omega) (by omega)]; omega
theorem specUn_l2 (data acc : List Int) (rows : List (List Int)) (x4 x5 x8 a b q1 q2 : Int) (m : Nat) (hm : m + 5 ≤ data.length) (hn : data.length ≤ 1048576) (hacc : acc.length ≤ 100) (hx : wrap64 (wrap64 (x4 + 1) + wrap64 (5 * x8)) = (m : Int)) (hb : ∀ i : Int, 0 ≤ rd data i ∧ rd data i ≤ 255) {r : Int × Int × List (List Int)}
    (H : Ev (fun k => spec_UnpackRows.l1 k data x4 x5 (acc ++ [cellV (rd (data.drop m) 0) (rd (data.drop m) 1) (rd (data.drop m) 2) (rd (data.drop m) 3) (rd (data.drop m) 4)]) (wrap64 (x8 + 1)) a b rows q1 q2) r) :
    Ev (fun k => spec_UnpackRows.l2 k data x4 x5 acc x8 0 0 a b rows q1 q2) r := by
  have w1 : wrap64 (0 + 1) = 1 := by decide +kernel
  have w2 : wrap64 (1 + 1) = 2 := by decide +kernel
  have w3 : wrap64 (2 + 1) = 3 := by decide +kernel
  have w4 : wrap64 (3 + 1) = 4 := by decide +kernel
  have w5 : wrap64 (4 + 1) = 5 := by decide +kernel
  have rr : ∀ i : Nat, rd data ((m + i : Nat) : Int) = rd (data.drop m) (i : Int) := fun i => (rd_dropi _ _ _).symm
  have bb : ∀ i : Nat, 0 ≤ rd (data.drop m) (i : Int) ∧ rd (data.drop m) (i : Int) ≤ 255 := fun i => by rw [rd_dropi]; exact hb _
  have b0 : 0 ≤ rd (data.drop m) 0 ∧ rd (data.drop m) 0 ≤ 255 := bb 0
  have b1 : 0 ≤ rd (data.drop m) 1 ∧ rd (data.drop m) 1 ≤ 255 := bb 1
  have b2 : 0 ≤ rd (data.drop m) 2 ∧ rd (data.drop m) 2 ≤ 255 := bb 2
  have b3 : 0 ≤ rd (data.drop m) 3 ∧ rd (data.drop m) 3 ≤ 255 := bb 3
  have b4 : 0 ≤ rd (data.drop m) 4 ∧ rd (data.drop m) 4 ≤ 255 := bb 4
  have t0 : wrap64 ((m : Int) + 0) = ((m + 0 : Nat) : Int) := w_five hm hn 0 (by decide)
  have t1 : wrap64 ((m : Int) + 1) = ((m + 1 : Nat) : Int) := w_five hm hn 1 (by decide)
  have t2 : wrap64 ((m : Int) + 2) = ((m + 2 : Nat) : Int) := w_five hm hn 2 (by decide)
  have t3 : wrap64 ((m : Int) + 3) = ((m + 3 : Nat) : Int) := w_five hm hn 3 (by decide)
  have t4 : wrap64 ((m : Int) + 4) = ((m + 4 : Nat) : Int) := w_five hm hn 4 (by decide)
  have s0 : rd data ((m + 0 : Nat) : Int) = rd (data.drop m) 0 := rr 0
  have s1 : rd data ((m + 1 : Nat) : Int) = rd (data.drop m) 1 := rr 1
  have s2 : rd data ((m + 2 : Nat) : Int) = rd (data.drop m) 2 := rr 2
  have s3 : rd data ((m + 3 : Nat) : Int) = rd (data.drop m) 3 := rr 3
  have s4 : rd data ((m + 4 : Nat) : Int) = rd (data.drop m) 4 := rr 4
  clear bb rr hb
  have hacc' : acc.length < 17592186044416 := by omega
  clear hacc hn
  generalize rd (data.drop m) 0 = v0 at *
  generalize rd (data.drop m) 1 = v1 at *
  generalize rd (data.drop m) 2 = v2 at *
  generalize rd (data.drop m) 3 = v3 at *
  generalize rd (data.drop m) 4 = v4 at *
  have q1_ := acc_step (y := 0) (z := v0) (B := 1) (by decide) b0 (by decide)
  have q2_ := acc_step q1_.2 b1 (by decide)
  have q3_ := acc_step q2_.2 b2 (by decide)
  have q4_ := acc_step q3_.2 b3 (by decide)
  have q5_ := acc_step q4_.2 b4 (by decide)
  have m0 : 0 ≤ ((m + 0 : Nat) : Int) ∧ ((m + 0 : Nat) : Int) < (data.length : Int) := in_five hm 0 (by decide)
  have m1 : 0 ≤ ((m + 1 : Nat) : Int) ∧ ((m + 1 : Nat) : Int) < (data.length : Int) := in_five hm 1 (by decide)
  have m2 : 0 ≤ ((m + 2 : Nat) : Int) ∧ ((m + 2 : Nat) : Int) < (data.length : Int) := in_five hm 2 (by decide)
  have m3 : 0 ≤ ((m + 3 : Nat) : Int) ∧ ((m + 3 : Nat) : Int) < (data.length : Int) := in_five hm 3 (by decide)
  have m4 : 0 ≤ ((m + 4 : Nat) : Int) ∧ ((m + 4 : Nat) : Int) < (data.length : Int) := in_five hm 4 (by decide)
  clear hm
  refine Kit.Ev.up ?_
  simp only [spec_UnpackRows.l2, hx, t0]
  refine Kit.Ev.pos (by decide +kernel) (Kit.Ev.pos m0.1 (Kit.Ev.pos m0.2 ?_))
  rw [w1, s0, q1_.1]
  refine Kit.Ev.up ?_
  simp only [spec_UnpackRows.l2, hx, t1]
  refine Kit.Ev.pos (by decide +kernel) (Kit.Ev.pos m1.1 (Kit.Ev.pos m1.2 ?_))
  rw [w2, s1, q2_.1]
  refine Kit.Ev.up ?_
  simp only [spec_UnpackRows.l2, hx, t2]
  refine Kit.Ev.pos (by decide +kernel) (Kit.Ev.pos m2.1 (Kit.Ev.pos m2.2 ?_))
  rw [w3, s2, q3_.1]
  refine Kit.Ev.up ?_
  simp only [spec_UnpackRows.l2, hx, t3]
  refine Kit.Ev.pos (by decide +kernel) (Kit.Ev.pos m3.1 (Kit.Ev.pos m3.2 ?_))
  rw [w4, s3, q4_.1]
  refine Kit.Ev.up ?_
  simp only [spec_UnpackRows.l2, hx, t4]
  refine Kit.Ev.pos (by decide +kernel) (Kit.Ev.pos m4.1 (Kit.Ev.pos m4.2 ?_))
  rw [w5, s4, q5_.1]
  refine Kit.Ev.up ?_
  simp only [spec_UnpackRows.l2]
  refine Kit.Ev.neg (by decide +kernel) (Kit.Ev.pos hacc' ?_)
  have hv : wrap64 (((((0 * 256 + v0) * 256 + v1) * 256 + v2) * 256 + v3) * 256 + v4 - 549755813888) = cellV v0 v1 v2 v3 v4 := by
    rw [last_step q5_.2]; unfold cellV; rw [Int.zero_mul, Int.zero_add]
  rw [hv]
  exact H
theorem specUn_l1 (data : List Int) (rows : List (List Int)) (hrows : rows.length ≤ 60) (i n : Nat) (h4 : n ≤ 4) (hm : i + 1 + 5 * n ≤ data.length) (hn : data.length ≤ 1048576) (hb : ∀ i : Int, 0 ≤ rd data i ∧ rd data i ≤ 255) {r : Int × Int × List (List Int)}
    (hr : rowF (cells n (data.drop (i + 1))) ≠ 0 → r = (5, (i : Int), []))
    (H : rowF (cells n (data.drop (i + 1))) = 0 → Ev (fun k => spec_UnpackRows.l0 k data ((i + 1 + 5 * n : Nat) : Int) 0 0 (rows ++ [cells n (data.drop (i + 1))])) r) : ∀ (d j : Nat), j + d = n →
    Ev (fun k => spec_UnpackRows.l1 k data (i : Int) (n : Int) (cells j (data.drop (i + 1))) (j : Int) 0 0 rows 5 (i : Int)) r := by
  intro d
  induction d with
  | zero =>
    intro j hd
    obtain rfl : j = n := by omega
    refine Kit.Ev.up ?_
    simp only [spec_UnpackRows.l1]
    refine Kit.Ev.neg (by omega) (Kit.Ev.then (specRow_ev _ (by rw [cells_length]; omega)) ?_)
    by_cases h : rowF (cells j (data.drop (i + 1))) = 0
    · refine Kit.Ev.pos h (Kit.Ev.pos (by omega) ?_)
      have e : wrap64 (wrap64 ((i : Int) + 1) + wrap64 (5 * (j : Int))) = ((i + 1 + 5 * j : Nat) : Int) := by
        rw [Kit.w64 (x := (i : Int) + 1) (by omega) (by omega), Kit.w64 (x := 5 * (j : Int)) (by omega) (by omega), Kit.w64 (by omega) (by omega)]; omega
      rw [e]
      exact H h
    · rw [hr h]; exact Kit.Ev.neg h (Kit.Ev.const rfl)
  | succ d ih =>
    intro j hd
    refine Kit.Ev.up ?_
    simp only [spec_UnpackRows.l1]
    refine Kit.Ev.pos (by omega) ?_
    have e : wrap64 (wrap64 ((i : Int) + 1) + wrap64 (5 * (j : Int))) = ((i + 1 + 5 * j : Nat) : Int) := by
      rw [Kit.w64 (x := (i : Int) + 1) (by omega) (by omega), Kit.w64 (x := 5 * (j : Int)) (by omega) (by omega), Kit.w64 (by omega) (by omega)]; omega
    refine specUn_l2 data _ rows _ _ _ _ _ _ _ (i + 1 + 5 * j) (by omega) hn (by rw [cells_length]; omega) e hb ?_
    rw [Kit.w64 (x := (j : Int) + 1) (by omega) (by omega)]
    have := ih (j + 1) (by omega)
    rw [cells_snoc, List.drop_drop] at this
    exact this
theorem specUn_l0 (data : List Int) (hb : ∀ x ∈ data, 0 ≤ x ∧ x ≤ 255) (hn : data.length ≤ 1048576) : ∀ (n i : Nat) (acc : List (List Int)), i ≤ data.length → data.length - i < n → acc.length ≤ 60 →
    Ev (fun k => spec_UnpackRows.l0 k data (i : Int) 0 0 acc) (unG n (i : Int) acc (data.drop i)) := by
  have hrd : ∀ i : Int, 0 ≤ rd data i ∧ rd data i ≤ 255 := by
    intro i
    unfold Go.Proofs.YtljfhfkmbgkpoaaW.PrintWords.rd
    by_cases hi : i.toNat < data.length
    · rw [List.getD_eq_getElem?_getD, List.getElem?_eq_getElem hi]; exact hb _ (List.getElem_mem hi)
    · rw [List.getD_eq_getElem?_getD, List.getElem?_eq_none (by omega)]; simp
  intro n
  induction n with
  | zero => intro i acc _ h _; omega
  | succ n ih =>
    intro i acc hi hl ha
    refine Kit.Ev.up ?_
    simp only [spec_UnpackRows.l0]
    by_cases he : i < data.length
    · rw [rd_drop (xs := data) (i := i) he]
      simp only [unG]
      have b0 := hb _ (rd_mem (xs := data) (i := i) he)
      have bad : ∀ x, x = true → Ev (fun k => spec_UnpackRows.j1 k data (i : Int) (rd data (i : Int)) x 0 0 acc 5 (i : Int)) (5, (i : Int), []) := by
        intro x hx; subst hx
        refine Kit.Ev.up ?_
        simp only [spec_UnpackRows.j1]
        exact Kit.Ev.pos (by trivial) (Kit.Ev.const rfl)
      have ew : wrap64 (rd data (i : Int)) = rd data (i : Int) := Kit.w64 (by omega) (by omega)
      have ew2 : wrap64 (wrap64 ((i : Int) + 1) + wrap64 (5 * rd data (i : Int))) = (i : Int) + 1 + 5 * rd data (i : Int) := by
        rw [Kit.w64 (x := (i : Int) + 1) (by omega) (by omega), Kit.w64 (x := 5 * _) (by omega) (by omega), Kit.w64 (by omega) (by omega)]
      rw [ew, ew2]
      refine Kit.Ev.pos (by omega) (Kit.Ev.pos (by omega) ?_)
      by_cases h4 : rd data (i : Int) ≤ 4
      · refine Kit.Ev.neg (by omega) ?_
        by_cases h5 : 5 * rd data (i : Int) ≤ ((data.drop (i + 1)).length : Int)
        · have h5' := h5
          rw [List.length_drop] at h5'
          refine Kit.Ev.neg (by omega) ?_
          by_cases h60 : acc.length = 60
          · rw [if_neg (fun q => q.2 h60)]
            exact bad _ (by simp [h60])
          · have hf : ((acc.length : Int) == 60) = false := by simp; omega
            rw [hf]
            refine Kit.Ev.up ?_
            simp only [spec_UnpackRows.j1]
            refine Kit.Ev.neg (by decide +kernel) ?_
            have en : rd data (i : Int) = (((rd data (i : Int)).toNat : Nat) : Int) := by omega
            have L := @specUn_l1 data acc ha i (rd data (i : Int)).toNat (by omega) (by omega) hn hrd
            have e2 : (i : Int) + 1 + 5 * rd data (i : Int) = ((i + 1 + 5 * (rd data (i : Int)).toNat : Nat) : Int) := by omega
            rw [e2]
            rw [← en] at L
            refine L ?_ ?_ (rd data (i : Int)).toNat 0 (by omega)
            · intro hz
              rw [if_neg (fun q => hz q.1.2.2)]
            · intro hz
              rw [if_pos ⟨⟨h4, h5, hz⟩, h60⟩, List.drop_drop]
              exact ih (i + 1 + 5 * (rd data (i : Int)).toNat) _ (by omega) (by omega) (by rw [List.length_append]; simp only [List.length_cons, List.length_nil]; omega)
        · rw [if_neg (fun q => h5 q.1.2.1)]
          rw [List.length_drop] at h5
          exact Kit.Ev.pos (by omega) (bad _ rfl)
      · rw [if_neg (fun q => h4 q.1.1)]
        exact Kit.Ev.pos (by omega) (bad _ rfl)
    · have e0 : data.drop i = [] := List.drop_eq_nil_of_le (by omega)
      rw [e0]
      exact Kit.Ev.neg (by omega) (Kit.Ev.const rfl)
theorem specUn_ev (data : List Int) (hb : ∀ x ∈ data, 0 ≤ x ∧ x ≤ 255) (hn : data.length ≤ 1048576) : Ev (fun k => spec_UnpackRows.f k data) (unV data) := by
  unfold spec_UnpackRows.f
  exact specUn_l0 data hb hn (data.length + 1) 0 [] (by omega) (by omega) (by simp)
theorem FnExactUnpackRows : laws_FnExactUnpackRows.Pure := by
  intro l hm _
  unfold laws_FnExactUnpackRows.ok
  by_cases hbig : 1048576 < l.length
  · exact ⟨0, .inl hbig⟩
  have hn : l.length ≤ 1048576 := by omega
  have hc : BytesOk l := bytesOk_of hn hm.2
  have hrows : (unV l).2.2.length ≤ 60 ∧ ∀ r ∈ (unV l).2.2, rowF r = 0 := by
    by_cases hu : (unV l).1 = 0
    · obtain ⟨h1, h2, _⟩ := unG_back (l.length + 1) 0 [] l (by omega) hc.2 (by simp) (by simp) hu
      exact ⟨h2, h1⟩
    · rw [un_bad hu]; exact ⟨by simp, by simp⟩
  have hcells := rows_cells hrows.2
  have hr : ∀ r ∈ (unV l).2.2, r.length ≤ 9223372036854775807 := fun r h => by have := (rowF_zero (hrows.2 r h)).1; omega
  obtain ⟨k, e1, e2, e3, e4, e5, e6, e7, e8⟩ := ((Late.of (toByteS_ev l hn)).and ((Late.of (specUn_ev l hc.2 hn)).and ((Late.of (implUn_ev l hc.2 hn)).and ((Late.of (eqRows_refl (unV l).1 (unV l).2.1 (unV l).2.2 (by omega) hr)).and ((Late.of (eqByteS_refl l (by omega))).and ((Late.of (markByteS_ev l 1 (by omega) (by omega))).and ((Late.of (markRows_ev (unV l).1 (unV l).2.1 (unV l).2.2 1 (by omega) (by omega) (by omega))).and (Late.of (heldRows_ev (unV l).1 (unV l).2.1 (unV l).2.2 1 (by omega) (by omega) (by omega)))))))))).ex
  exact ⟨k, .inr ⟨_, _, _, _, _, _, _, e1, e2, e3, e4, e5, e6, e7, e8, hn, by omega, by omega⟩⟩

end Go.Proofs.Ytljfhfkmbgkpoaa.Pure
